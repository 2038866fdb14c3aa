import PyProof.Rows.All
import KE.KStateDown
import HandS.Ends
import HandS.More
import HandS.Words
import HandS.WordsExc
import HandS.Defaults
import HandS.Head0
import HandS.Head1
import HandS.Head2
import HandS.HeadEnd
import HandS.HeadHook1
import HandS.HeadHook2
import HandS.HeadHook4
import HandS.HeadWalk
import PySem.Challenge.RW_grownworlds_k95_errors_of_what_is_asked
import Wide.All
import OpenK.AllK
import Wide.FinOn
import HandS.ForMost
import HandS.Exc
import HandS.Lambda
import HandS.IsInst
import HandS.Wide
import HandS.Deep
import HandS.TupAny
import HandS.Text
import HandS.Flow
import HandS.List
import HandS.SortInts
import HandS.Conv
import PyProof.Rows.StrMeet
import HandS.Style
import HandS.Dict
import HandS.Comp
import HandS.DictComp
import HandS.ForDict
import HandS.ForList
import HandS.Zip
import HandS.ExcOwn
import HandS.ExcInit
import HandS.ExcField
import HandS.TryMany
import HandS.MakeKwOnly
import HandS.ExcValue
import KE.KExcIs
import HandS.HotCalls
import HandS.ExcInitHot
import HandS.ExcCtx
import HandS.DeepEq
import KE.IntBitsLaws
set_option Elab.async false
set_option linter.all false
set_option maxRecDepth 100000
set_option autoImplicit false
set_option maxHeartbeats 2000000
/-! what the head can tell of classes of errors -/
namespace GW
open PySem PySem.Spec PyProof.Rows L2
def oexB (K : PySem.W.Frag) (C : Addr) : Bool := (match K.lookup C with
  | some ⟨.type "type", _, .cls cd, sl⟩ => (match cd.mro, sl.toList with
    | .ref C' :: bm, [_, _, _, _, some (.builtin n), _] => C' == C && n == "ValueError.__new__" && !cd.hasDel && cd.hasDict && PySem.HandSPX.refsVE bm
    | _, _ => false)
  | _ => false) && (He.eqO (PySem.W.findIn K (.ref C) "__setattr__") (some (some (.builtin "object.__setattr__"))) && (decide (PySem.W.subIn K (.ref C) (.type "BaseException") = some true) && (decide (PySem.W.typeIn K (.ref C) = some (.type "type")) && PySem.W.keepIn K (.ref C))))
def kitcB (K : PySem.W.Frag) (C : Addr) : Bool := (PySem.W.clsIn K C).isSome && (He.eqO (PySem.W.findIn K (.ref C) "__getattribute__") (some (some (.builtin "BaseException.__getattribute__"))) && (He.eqO (PySem.W.findIn K (.ref C) "__getattr__") (some none) && (decide (PySem.W.subIn K (.ref C) (.type "BaseException") = some true) &&
  (He.eqO (PySem.W.findIn K (.ref C) "__class__") (some (some (.builtin "object.__class__"))) && (He.eqO (PySem.W.specialIn K (.builtin "object.__class__") "__get__") (some (some (.builtin "getset_descriptor.__get__"))) && (decide (PySem.W.takesIn K (.builtin "object.__class__") = some true) && (decide (PySem.W.mroIn K C (.type "object") = some true) && PySem.W.hasDictIn K C)))))))
/-- a class of errors with one field f, its __init__ -/
def excB (K : PySem.W.Frag) (x f : Str) : Bool := oexB K (He.ga K x) && (He.eqO (PySem.W.findIn K (.ref (He.ga K x)) "__init__") (some (some (.ref (He.fAd K (x, some "__init__"))))) && (decide (PySem.W.typeIn K (.ref (He.fAd K (x, some "__init__"))) = some (.type "function")) && He.eqO (PySem.W.findIn K (.ref (He.ga K x)) f) (some none)))
/-- one without __init__ of its own -/
def exc0B (K : PySem.W.Frag) (x : Str) : Bool := PySem.W.excIn K (He.ga K x) He.veBase "ValueError.__new__" && PySem.W.keepIn K (.ref (He.ga K x))
/-- the table: the classes xs that errors may have, the classes ys that are asked for (own ones: True, with their name; built-in ones: False) -/
def clsV (K : PySem.W.Frag) (y : Str × Bool) : Value := if y.2 then .ref (He.ga K y.1) else .type y.1.toString
def tabB (K : PySem.W.Frag) (T : Str → Str → Option Bool) (xs : List Str) (ys : List (Str × Bool)) : Bool := xs.all fun x => kitcB K (He.ga K x) && ys.all fun y => match T x y.1 with
  | some b => decide (PySem.W.kitOne K (.ref (He.ga K x)) (clsV K y) = some b)
  | none => true
end GW

set_option maxHeartbeats 0
namespace GH
open PySem PySem.Spec PyProof.Rows L2
def top (i : Nat) : Stmt := PySem.Challenge.pw_grownworlds_k95_errors_of_what_is_asked.main.body.getD i (.Pass ⟨0, 0, 0, 0⟩)
def ini (i : Nat) : Stmt := match top i with
  | .ClassDef (body := b) .. => b.getD 0 (.Pass ⟨0, 0, 0, 0⟩)
  | s => s
def mkD (x : String) (i : Nat) : He.DefD := ⟨(Str.ofString x, none), Str.ofString x, Str.ofString x, defArgs (top i), defBody (top i), defScope (top i), [], []⟩
def mkI (x : String) (i : Nat) : He.DefD := ⟨(Str.ofString x, some (Str.ofString "__init__")), Str.ofString "__init__", Str.ofString (x ++ ".__init__"), defArgs (ini i), defBody (ini i), defScope (ini i), [], []⟩

def fn : List He.DefD := [mkD "_law_start" 50, mkD "_law_pick" 51, mkD "_law_between" 52, mkD "_law_same" 53, mkD "_law_kinds_of" 54, mkD "_law_others" 55, mkD "_law_is_other" 56, mkD "_law_made_a" 57, mkD "_law_made_b" 58, mkD "_law_made_at" 59, mkD "_law_object" 60, mkD "_law_very" 61, mkD "_law_caught" 62, mkD "law" 63, mkI "BadOther" 2, mkI "BadProof" 3, mkI "BadPath" 4, mkI "BadFormulas" 5, mkI "BadTerm" 6, mkI "BadMore" 7, mkI "BadTheirs" 8, mkI "BadAnswer" 9, mkI "BadWholeText" 10, mkI "BadPrices" 12, mkI "BadWishes" 13, mkI "BadLevels" 14, mkI "NotStraight" 15, mkI "BadAsks" 16, mkI "NotApart" 17, mkI "BadStrategy" 18, mkI "BadEdit" 19, mkI "BadDesk" 20, mkI "BadDeskText" 21, mkI "BadFormula" 25, mkI "BadGoal" 26, mkI "BadHeap" 27, mkI "BadWorld" 28, mkI "BadPlace" 29, mkI "BadPart" 30, mkI "BadFormulaText" 31, mkI "BadHeapText" 32, mkI "BadWorldText" 33, mkI "BadSome" 34, mkI "BadOthers" 35, mkI "BadSets" 36, mkI "BadWord" 37, mkI "BadNumber" 38, mkI "BadTold" 39, mkI "BadWords" 40, mkI "BadWorlds" 41, mkI "BadMany" 42, mkI "BadHeight" 43, mkI "BadFull" 44, mkI "TwoAlike" 45, mkI "BadWeave" 46, mkI "BadName" 47, mkI "NotClearing" 48]
def fa : List He.Fa := [.glo "_law_start", .glo "_law_pick", .glo "_law_between", .glo "_law_same", .glo "_law_kinds_of", .glo "_law_others", .glo "_law_is_other", .glo "_law_made_a", .glo "_law_made_b", .glo "_law_made_at", .glo "_law_object", .glo "_law_very", .glo "_law_caught", .glo "law", .glo "WorldError", .glo "BadOther", .glo "BadProof", .glo "BadPath", .glo "BadFormulas", .glo "BadTerm", .glo "BadMore", .glo "BadTheirs", .glo "BadAnswer", .glo "BadWholeText", .glo "BadPrices", .glo "BadWishes", .glo "BadLevels", .glo "NotStraight", .glo "BadAsks", .glo "NotApart", .glo "BadStrategy", .glo "BadEdit", .glo "BadDesk", .glo "BadDeskText", .glo "NothingToUndo", .glo "NothingToRedo", .glo "BadFormula", .glo "BadGoal", .glo "BadHeap", .glo "BadWorld", .glo "BadPlace", .glo "BadPart", .glo "BadFormulaText", .glo "BadHeapText", .glo "BadWorldText", .glo "BadSome", .glo "BadOthers", .glo "BadSets", .glo "BadWord", .glo "BadNumber", .glo "BadTold", .glo "BadWords", .glo "BadWorlds", .glo "BadMany", .glo "BadHeight", .glo "BadFull", .glo "TwoAlike", .glo "BadWeave", .glo "BadName", .glo "NotClearing", .free "ValueError", .free "isinstance", .free "dict", .free "bool", .free "int", .free "list", .free "range", .free "abs", .free "tuple", .free "all", .free "str", .free "max", .free "len", .free "KeyError", .free "IndexError", .free "TypeError", .free "zip", .keep "WorldError", .keep "BadOther", .keep "BadProof", .keep "BadPath", .keep "BadFormulas", .keep "BadTerm", .keep "BadMore", .keep "BadTheirs", .keep "BadAnswer", .keep "BadWholeText", .keep "BadPrices", .keep "BadWishes", .keep "BadLevels", .keep "NotStraight", .keep "BadAsks", .keep "NotApart", .keep "BadStrategy", .keep "BadEdit", .keep "BadDesk", .keep "BadDeskText", .keep "NothingToUndo", .keep "NothingToRedo", .keep "BadFormula", .keep "BadGoal", .keep "BadHeap", .keep "BadWorld", .keep "BadPlace", .keep "BadPart", .keep "BadFormulaText", .keep "BadHeapText", .keep "BadWorldText", .keep "BadSome", .keep "BadOthers", .keep "BadSets", .keep "BadWord", .keep "BadNumber", .keep "BadTold", .keep "BadWords", .keep "BadWorlds", .keep "BadMany", .keep "BadHeight", .keep "BadFull", .keep "TwoAlike", .keep "BadWeave", .keep "BadName", .keep "NotClearing"]
def names : List Str := (["WorldError", "BadOther", "BadProof", "BadPath", "BadFormulas", "BadTerm", "BadMore", "BadTheirs", "BadAnswer", "BadWholeText", "BadPrices", "BadWishes", "BadLevels", "NotStraight", "BadAsks", "NotApart", "BadStrategy", "BadEdit", "BadDesk", "BadDeskText", "NothingToUndo", "NothingToRedo", "BadFormula", "BadGoal", "BadHeap", "BadWorld", "BadPlace", "BadPart", "BadFormulaText", "BadHeapText", "BadWorldText", "BadSome", "BadOthers", "BadSets", "BadWord", "BadNumber", "BadTold", "BadWords", "BadWorlds", "BadMany", "BadHeight", "BadFull", "TwoAlike", "BadWeave", "BadName", "NotClearing", "_law_start", "_law_pick", "_law_between", "_law_same", "_law_kinds_of", "_law_others", "_law_is_other", "_law_made_a", "_law_made_b", "_law_made_at", "_law_object", "_law_very", "_law_caught"] : List String).map Str.ofString
def bls : List Str := (["ValueError", "isinstance", "dict", "bool", "int", "list", "range", "abs", "tuple", "all", "str", "max", "len", "KeyError", "IndexError", "TypeError", "zip"] : List String).map Str.ofString
def tabL : List (Str × List Str) := ([("WorldError", ["WorldError", "ValueError"]), ("BadOther", ["BadOther", "WorldError", "ValueError"]), ("BadProof", ["BadProof", "WorldError", "ValueError"]), ("BadPath", ["BadPath", "WorldError", "ValueError"]), ("BadFormulas", ["BadFormulas", "WorldError", "ValueError"]), ("BadTerm", ["BadTerm", "WorldError", "ValueError"]), ("BadMore", ["BadMore", "WorldError", "ValueError"]), ("BadTheirs", ["BadTheirs", "WorldError", "ValueError"]), ("BadAnswer", ["BadAnswer", "WorldError", "ValueError"]), ("BadWholeText", ["BadWholeText", "WorldError", "ValueError"]), ("BadPrices", ["BadPrices", "WorldError", "ValueError"]), ("BadWishes", ["BadWishes", "WorldError", "ValueError"]), ("BadLevels", ["BadLevels", "WorldError", "ValueError"]), ("NotStraight", ["NotStraight", "WorldError", "ValueError"]), ("BadAsks", ["BadAsks", "WorldError", "ValueError"]), ("NotApart", ["NotApart", "WorldError", "ValueError"]), ("BadStrategy", ["BadStrategy", "WorldError", "ValueError"]), ("BadEdit", ["BadEdit", "WorldError", "ValueError"]), ("BadDesk", ["BadDesk", "WorldError", "ValueError"]), ("BadDeskText", ["BadDeskText", "WorldError", "ValueError"]), ("NothingToUndo", ["NothingToUndo", "WorldError", "ValueError"]), ("NothingToRedo", ["NothingToRedo", "WorldError", "ValueError"]), ("BadFormula", ["BadFormula", "WorldError", "ValueError"]), ("BadGoal", ["BadGoal", "WorldError", "ValueError"]), ("BadHeap", ["BadHeap", "WorldError", "ValueError"]), ("BadWorld", ["BadWorld", "WorldError", "ValueError"]), ("BadPlace", ["BadPlace", "WorldError", "ValueError"]), ("BadPart", ["BadPart", "WorldError", "ValueError"]), ("BadFormulaText", ["BadFormulaText", "WorldError", "ValueError"]), ("BadHeapText", ["BadHeapText", "WorldError", "ValueError"]), ("BadWorldText", ["BadWorldText", "WorldError", "ValueError"]), ("BadSome", ["BadSome", "WorldError", "ValueError"]), ("BadOthers", ["BadOthers", "WorldError", "ValueError"]), ("BadSets", ["BadSets", "WorldError", "ValueError"]), ("BadWord", ["BadWord", "WorldError", "ValueError"]), ("BadNumber", ["BadNumber", "WorldError", "ValueError"]), ("BadTold", ["BadTold", "WorldError", "ValueError"]), ("BadWords", ["BadWords", "WorldError", "ValueError"]), ("BadWorlds", ["BadWorlds", "WorldError", "ValueError"]), ("BadMany", ["BadMany", "WorldError", "ValueError"]), ("BadHeight", ["BadHeight", "WorldError", "ValueError"]), ("BadFull", ["BadFull", "WorldError", "ValueError"]), ("TwoAlike", ["TwoAlike", "WorldError", "ValueError"]), ("BadWeave", ["BadWeave", "WorldError", "ValueError"]), ("BadName", ["BadName", "WorldError", "ValueError"]), ("NotClearing", ["NotClearing", "WorldError", "ValueError"])] : List (String × List String)).map fun p => (Str.ofString p.1, p.2.map Str.ofString)
def asked : List (Str × Bool) := ([("BadPrices", true), ("BadWishes", true), ("BadLevels", true), ("NotStraight", true), ("BadOther", true), ("BadProof", true), ("BadPath", true), ("BadFormulas", true), ("BadTerm", true), ("BadMore", true), ("BadTheirs", true), ("BadAnswer", true), ("BadWholeText", true), ("BadFormula", true), ("BadGoal", true), ("BadHeap", true), ("BadWorld", true), ("BadPlace", true), ("BadPart", true), ("BadFormulaText", true), ("BadHeapText", true), ("BadWorldText", true), ("BadSome", true), ("BadOthers", true), ("BadSets", true), ("BadWord", true), ("BadNumber", true), ("BadTold", true), ("BadWords", true), ("BadWorlds", true), ("BadMany", true), ("BadHeight", true), ("BadFull", true), ("TwoAlike", true), ("BadWeave", true), ("BadName", true), ("NotClearing", true), ("ValueError", false), ("BadAsks", true), ("NotApart", true), ("BadStrategy", true), ("BadEdit", true), ("BadDesk", true), ("BadDeskText", true), ("NothingToUndo", true), ("NothingToRedo", true), ("KeyError", false), ("IndexError", false), ("TypeError", false), ("WorldError", true)] : List (String × Bool)).map fun p => (Str.ofString p.1, p.2)
def T (x y : Str) : Option Bool := if asked.any (fun q => q.1 == y) then (tabL.lookup x).map (·.contains y) else none
def xs : List Str := tabL.map (·.1)
def flds : List (Str × Str) := ([("BadOther", "other"), ("BadProof", "proof"), ("BadPath", "path"), ("BadFormulas", "index"), ("BadTerm", "term"), ("BadMore", "more"), ("BadTheirs", "index"), ("BadAnswer", "answer"), ("BadWholeText", "line"), ("BadPrices", "prices"), ("BadWishes", "index"), ("BadLevels", "levels"), ("NotStraight", "index"), ("BadAsks", "index"), ("NotApart", "index"), ("BadStrategy", "strategy"), ("BadEdit", "edit"), ("BadDesk", "desk"), ("BadDeskText", "line"), ("BadFormula", "formula"), ("BadGoal", "goal"), ("BadHeap", "index"), ("BadWorld", "world"), ("BadPlace", "place"), ("BadPart", "part"), ("BadFormulaText", "place"), ("BadHeapText", "line"), ("BadWorldText", "line"), ("BadSome", "some"), ("BadOthers", "others"), ("BadSets", "sets"), ("BadWord", "word"), ("BadNumber", "number"), ("BadTold", "told"), ("BadWords", "index"), ("BadWorlds", "index"), ("BadMany", "many"), ("BadHeight", "height"), ("BadFull", "full"), ("TwoAlike", "other"), ("BadWeave", "weave"), ("BadName", "name"), ("NotClearing", "place")] : List (String × String)).map fun p => (Str.ofString p.1, Str.ofString p.2)
def zero : List Str := ["WorldError", "NothingToUndo", "NothingToRedo"]
def ex (K : PySem.W.Frag) : Bool := GW.tabB K T xs asked && (flds.all (fun q => GW.excB K q.1 q.2) && zero.all (fun x => GW.exc0B K x))
abbrev R : PySem.W.OpenRow := PySem.W.OpenLaw.row PySem.Challenge.rw_grownworlds_k95_errors_of_what_is_asked
abbrev hk : PySem.W.Hook := He.hookX 4 fa fn [] [] ex
def ob (s : PySem.W.SharedT) : He.AlX := He.obsX 4 fa fn [] [] ex (HandSHeadRun.getT s)
theorem ob_eq (s : PySem.W.SharedT) : ob s = hk.obs s.abs := He.obsX_eq (HandSHeadRun.getT_eq s)
open HandSHeadRun PySem.W PySem.Calls in
noncomputable def st (w : World) (os : OsState) : Option SharedT := endF (stepQ (denQ tabQ) R.prog w) 40000 R.prog w os
noncomputable def KK (s : PySem.W.SharedT) : PySem.W.Frag := He.frT (HandSHeadRun.getT s) (He.asD (HandSHeadRun.getT s) 4)
theorem split2 {α β γ : Type} {o : Option α} {f : α → β} {g : α → γ} {a : β} {b : γ} (h1 : o.map f = some a) (h2 : o.map g = some b) : o.map (fun s => (f s, g s)) = some (a, b) := by
  cases o with
  | none => cases h1
  | some s => cases h1; cases h2; rfl
theorem split3 {α β γ δ : Type} {o : Option α} {f : α → β × γ} {g : α → δ} {a : β} {b : γ} {c : δ} (h1 : o.map f = some (a, b)) (h2 : o.map g = some c) : o.map (fun s => ((f s).1, (f s).2, g s)) = some (a, b, c) := by
  cases o with
  | none => cases h1
  | some s =>
    have e1 : f s = (a, b) := Option.some.inj h1
    have e2 : g s = c := Option.some.inj h2
    show some ((f s).1, (f s).2, g s) = _
    rw [e1, e2]
open HandSHeadRun PySem.W PySem.Calls in
theorem r1 (w : World) (os : OsState) : (st w os).map (fun s => (looksF R.prog (boot_heap w.params) s.abs, seenQ (view R.prog [63]) names (importedModules R.prog.main.body) (fun s => xlAt (view R.prog [63]) [] s && recOk R.toRowW.records s) s.abs)) = some (true, openGood (view R.prog [63]) names) := by kernel_rfl
theorem r2 (w : World) (os : OsState) : (st w os).map (fun s => He.obsT fa fn [] (KK s)) = some (He.valT fn [] w) := by kernel_rfl
theorem r3 (w : World) (os : OsState) : (st w os).map (fun s => ex (KK s) && He.tabsB (HandSHeadRun.getT s) [] (KK s)) = some true := by kernel_rfl
theorem run (w : World) : HandSHeadRun.RunEq R (PySem.W.view R.prog [63]) hk ob 40000 names w := fun os =>
  split3 (r1 w os) (split2 (r2 w os) (r3 w os))
end GH

set_option maxHeartbeats 4000000
/-! plain data of the walk: values as trees, what stands where -/
namespace GW
open PySem PySem.Spec PyProof.Rows L2

/-- slots -/
abbrev St := L2.St
inductive D where
  | non | bl (b : Bool) | int (i : Int) | str (s : Str)
  | tup (xs : List D) | lst (e : Nat) (xs : List D) | dic (e : Nat) (kvs : List (Key × D))
  | fn (x : Str) | clo (n : Nat) (ws : List D) | sta
  | own (i : Nat)
  | any (v : V) | lab (v : V) (d : D) | exc (x : Str) (fs : List (Str × V))
  deriving Inhabited

/-- a lambda of the text: its name, what it takes, its body, its scope, what it captures -/
structure LamD where
  q : Str
  params : Arguments
  body : Expr
  scope : Scope
  fr : List Str
/-- what never changes while a def runs -/
structure Gd where
  K : PySem.W.Frag
  mg : Str → Option Value
  isFn : Str → Bool
  sa : Addr
  sb : Addr
  T : List (Addr × Str)
  lam : Nat → Option LamD
  /-- addresses that belong to callers -/
  av : Addr → Prop

/-- eras: which addresses stood at its start -/
abbrev Er := Nat → Addr → Prop
/-- a node of era e, told at era c -/
def EraOk (er : Er) (c e : Nat) (a : Addr) : Prop := e ≤ c ∧ ¬ er e a ∧ ∀ e', e < e' → e' ≤ c → er e' a

/-- objects that the walk never changes: neither callers' own, nor own, nor the draws' -/
def Free (g : Gd) (ow : Addr → Prop) (a : Addr) : Prop := ¬ g.av a ∧ ¬ ow a ∧ a ≠ g.sa ∧ a ≠ g.sb

/-- what is said of the object at a: an exception of the class at C -/
def ExcP (C : Addr) (od : Option Addr) (a : Addr) (φ : Heap → Prop) : Prop := ∀ h : Heap, φ h → ∃ (oe : Obj) (vs : Array Value), h.get? a = some oe ∧ Zc (.ref C) od oe ∧ oe.data = .fields vs
theorem heap_at {a : Addr} {o : Obj} (hd : o.data ≠ .freed) : ∃ h : Heap, h.get? a = some o := by
  refine ⟨⟨Array.replicate (a + 1) o, {}⟩, ?_⟩
  have e : (Array.replicate (a + 1) o)[a]? = some o := by simp
  unfold Heap.get?
  simp only [e]
  split
  · rename_i z
    cases z
    exact absurd rfl hd
  · rfl
/-- no exception stands there -/
def NoEx (a : Addr) (φ : Heap → Prop) : Prop := ∀ C od, ¬ ExcP C od a φ
theorem noEx_of {a : Addr} {o : Obj} (hd : o.data ≠ .freed) (hf : ∀ vs, o.data ≠ .fields vs) : NoEx a (fun h => h.get? a = some o) := fun C od z => by
  obtain ⟨h, e⟩ := heap_at (a := a) hd
  obtain ⟨oe, vs, e1, _, e2⟩ := z h e
  rw [e] at e1
  cases e1
  exact hf _ e2
/-- its fields -/
def ExcD (H : Hp) : Option Addr → List (Str × V) → Prop
  | .none, fs => fs = []
  | .some dx, fs => H dx = some (.xd fs)
theorem ExcD.up {H H' : Hp} {od : Option Addr} {fs : List (Str × V)} (h : ExcD H od fs) (q : ∀ a fs, H a = some (.xd fs) → H' a = some (.xd fs)) : ExcD H' od fs := by
  cases od with
  | none => exact h
  | some dx => exact q dx fs h
mutual
inductive RepD (g : Gd) (er : Er) (c : Nat) (H : Hp) (ow : Addr → Prop) : V → D → Prop
  | non : RepD g er c H ow .non .non
  | bl (b : Bool) : RepD g er c H ow (.bl b) (.bl b)
  | int (i : Int) : RepD g er c H ow (.int i) (.int i)
  | str (s : Str) : RepD g er c H ow (.str s) (.str s)
  | tup {a : Addr} {vs : List V} {ds : List D} (h : SqT g.K H a vs) (r : RepDs g er c H ow vs ds) : RepD g er c H ow (.ref a) (.tup ds)
  | lst {a : Addr} {e : Nat} {vs : List V} {ds : List D} (h : H a = some (.lst vs)) (he : EraOk er c e a) (hf : Free g ow a) (r : RepDs g er c H ow vs ds) : RepD g er c H ow (.ref a) (.lst e ds)
  | dic {a : Addr} {e : Nat} {vs : List (Key × V)} {ds : List (Key × D)} (h : Rd H a (.dK vs)) (he : EraOk er c e a) (hf : Free g ow a) (nd : (vs.map (·.1)).Nodup) (r : RepKs g er c H ow vs ds) : RepD g er c H ow (.ref a) (.dic e ds)
  | fn {x : Str} {a : Addr} (h : g.mg x = some (.ref a)) (hx : g.isFn x = true) : RepD g er c H ow (.ref a) (.fn x)
  | any (v : V) : RepD g er c H ow v (.any v)
  | lab {v : V} {d : D} (h : RepD g er c H ow v d) : RepD g er c H ow v (.lab v d)
  | exc {x : Str} {a C : Addr} {od : Option Addr} {φ : Heap → Prop} {fs : List (Str × V)} (hx : g.mg x = some (.ref C)) (h : H a = some (.ext φ)) (hp : ExcP C od a φ) (hd : ExcD H od fs) : RepD g er c H ow (.ref a) (.exc x fs)
inductive RepDs (g : Gd) (er : Er) (c : Nat) (H : Hp) (ow : Addr → Prop) : List V → List D → Prop
  | nil : RepDs g er c H ow [] []
  | cons {v : V} {d : D} {vs : List V} {ds : List D} (h : RepD g er c H ow v d) (r : RepDs g er c H ow vs ds) : RepDs g er c H ow (v :: vs) (d :: ds)
inductive RepKs (g : Gd) (er : Er) (c : Nat) (H : Hp) (ow : Addr → Prop) : List (Key × V) → List (Key × D) → Prop
  | nil : RepKs g er c H ow [] []
  | cons {k : Key} {v : V} {d : D} {vs : List (Key × V)} {ds : List (Key × D)} (h : RepD g er c H ow v d) (r : RepKs g er c H ow vs ds) : RepKs g er c H ow ((k, v) :: vs) ((k, d) :: ds)
end

/-- what stands in the written part is no list that the walk changes -/
def isTbl : HO → Bool
  | .tbl _ => true
  | _ => false

/-- from one state to a later one: whatever is free is as it was; eras that have come hold all that stood -/
structure Ext (g : Gd) (ow : Addr → Prop) (er : Er) (c : Nat) (H : Hp) (er' : Er) (c' : Nat) (H' : Hp) : Prop where
  same : ∀ a o, H a = some o → ¬ ow a → a ≠ g.sa → a ≠ g.sb → isTbl o = false → H' a = some o
  dom : ∀ a, H a ≠ none → H' a ≠ none
  ere : ∀ e, e ≤ c → er' e = er e
  cc : c ≤ c'
  new : ∀ a e, H a ≠ none → c < e → e ≤ c' → er' e a
  nfz : ∀ a o u, H' a = some (.frz o u) → H a = some (.frz o u)
theorem Ext.refl (g : Gd) (ow : Addr → Prop) (er : Er) (c : Nat) (H : Hp) : Ext g ow er c H er c H :=
  ⟨fun _ _ h _ _ _ _ => h, fun _ h => h, fun _ _ => rfl, Nat.le_refl _, fun _ _ _ h1 h2 => absurd (Nat.lt_of_lt_of_le h1 h2) (Nat.lt_irrefl _), fun _ _ _ h => h⟩
theorem Ext.trans {g : Gd} {ow ow' : Addr → Prop} {er er1 er2 : Er} {c c1 c2 : Nat} {H H1 H2 : Hp} (a : Ext g ow er c H er1 c1 H1) (b : Ext g ow' er1 c1 H1 er2 c2 H2) (h : ∀ x, ow' x → ow x ∨ H x = none) : Ext g ow er c H er2 c2 H2 where
  same := fun x o e n1 n2 n3 t => b.same x o (a.same x o e n1 n2 n3 t) (fun z => (h x z).elim n1 fun q => by rw [q] at e; cases e) n2 n3 t
  dom := fun x e => b.dom x (a.dom x e)
  ere := fun e he => (b.ere e (Nat.le_trans he a.cc)).trans (a.ere e he)
  cc := Nat.le_trans a.cc b.cc
  new := fun x e hx h1 h2 => by
    by_cases hc : e ≤ c1
    · rw [b.ere e hc]; exact a.new x e hx h1 hc
    · exact b.new x e (a.dom x hx) (by omega) h2
  nfz := fun x o u h => a.nfz x o u (b.nfz x o u h)
theorem Ext.mono {g : Gd} {ow ow' : Addr → Prop} {er er1 : Er} {c c1 : Nat} {H H1 : Hp} (a : Ext g ow er c H er1 c1 H1) (h : ∀ x, ow x → ow' x ∨ H x = none) : Ext g ow' er c H er1 c1 H1 :=
  ⟨fun x o e n1 n2 n3 t => a.same x o e (fun z => (h x z).elim n1 fun q => by rw [q] at e; cases e) n2 n3 t, a.dom, a.ere, a.cc, a.new, a.nfz⟩

theorem EraOk.ext {g : Gd} {ow : Addr → Prop} {er er' : Er} {c c' e : Nat} {H H' : Hp} {a : Addr} (h : EraOk er c e a) (x : Ext g ow er c H er' c' H') (ha : H a ≠ none) : EraOk er' c' e a := by
  obtain ⟨h0, h1, h2⟩ := h
  refine ⟨Nat.le_trans h0 x.cc, ?_, fun e' l1 l2 => ?_⟩
  · rw [x.ere e h0]; exact h1
  · by_cases hc : e' ≤ c
    · rw [x.ere e' hc]; exact h2 e' l1 hc
    · exact x.new a e' ha (by omega) l2

/-- what is written on: own objects are lists and dicts that stand -/
def OwL (ow : Addr → Prop) (H : Hp) : Prop := ∀ a, ow a → (∃ vs, H a = some (.lst vs)) ∨ ∃ vs, H a = some (.dK vs)
def SaL (g : Gd) (H : Hp) : Prop := (∃ vs, H g.sa = some (.lst vs)) ∧ ∃ vs, H g.sb = some (.lst vs)

theorem rd_ne {H : Hp} {a : Addr} {u : HO} (h : Rd H a u) : H a ≠ none := by
  rcases h with h | ⟨o, h⟩ <;> rw [h] <;> exact fun z => nomatch z
theorem Rd.ext {g : Gd} {ow : Addr → Prop} {er er' : Er} {c c' : Nat} {H H' : Hp} {a : Addr} {u : HO} (h : Rd H a u) (x : Ext g ow er c H er' c' H') (n1 : ¬ ow a) (n2 : a ≠ g.sa) (n3 : a ≠ g.sb) (t : isTbl u = false) : Rd H' a u := by
  rcases h with h | ⟨o, h⟩
  · exact .inl (x.same a _ h n1 n2 n3 t)
  · exact .inr ⟨o, x.same a _ h n1 n2 n3 rfl⟩
theorem tup_free {g : Gd} {ow : Addr → Prop} {H : Hp} {a : Addr} {vs : List V} (h : Rd H a (.tup vs)) (hl : OwL ow H) (hs : SaL g H) : ¬ ow a ∧ a ≠ g.sa ∧ a ≠ g.sb := by
  have ne : ∀ xs : List V, H a ≠ some (.lst xs) := fun xs z => by
    rcases h with h | ⟨o, h⟩ <;> rw [h] at z <;> cases z
  have ne2 : ∀ xs, H a ≠ some (.dK xs) := fun xs z => by
    rcases h with h | ⟨o, h⟩ <;> rw [h] at z <;> cases z
  obtain ⟨⟨v1, h1⟩, v2, h2⟩ := hs
  refine ⟨fun z => ?_, fun z => ?_, fun z => ?_⟩
  · rcases hl a z with ⟨xs, q⟩ | ⟨xs, q⟩
    · exact ne xs q
    · exact ne2 xs q
  · rw [z] at ne; exact ne _ h1
  · rw [z] at ne; exact ne _ h2
theorem SqT.ext {g : Gd} {ow : Addr → Prop} {er er' : Er} {c c' : Nat} {H H' : Hp} {a : Addr} {vs : List V} (h : SqT g.K H a vs) (x : Ext g ow er c H er' c' H') (hl : OwL ow H) (hs : SaL g H) : SqT g.K H' a vs := by
  rcases h with h | h
  · obtain ⟨n1, n2, n3⟩ := tup_free h hl hs
    exact .inl (Rd.ext h x n1 n2 n3 rfl)
  · exact .inr h

theorem not_lst {g : Gd} {ow : Addr → Prop} {H : Hp} {a : Addr} {o : HO} (h : H a = some o) (h1 : ∀ vs, o ≠ .lst vs) (h2 : ∀ vs, o ≠ .dK vs) (hl : OwL ow H) (hs : SaL g H) : ¬ ow a ∧ a ≠ g.sa ∧ a ≠ g.sb := by
  obtain ⟨⟨v1, q1⟩, v2, q2⟩ := hs
  refine ⟨fun z => ?_, fun z => ?_, fun z => ?_⟩
  · rcases hl a z with ⟨xs, q⟩ | ⟨xs, q⟩ <;> rw [h] at q
    · exact h1 _ (Option.some.inj q)
    · exact h2 _ (Option.some.inj q)
  · rw [z, q1] at h; exact h1 _ (Option.some.inj h).symm
  · rw [z, q2] at h; exact h1 _ (Option.some.inj h).symm
theorem Ext.keep {g : Gd} {ow : Addr → Prop} {er er' : Er} {c c' : Nat} {H H' : Hp} {a : Addr} {o : HO} (x : Ext g ow er c H er' c' H') (hl : OwL ow H) (hs : SaL g H) (h : H a = some o) (h1 : ∀ vs, o ≠ .lst vs) (h2 : ∀ vs, o ≠ .dK vs) (t : isTbl o = false) : H' a = some o := by
  obtain ⟨n1, n2, n3⟩ := not_lst h h1 h2 hl hs
  exact x.same a _ h n1 n2 n3 t
section
variable {g : Gd} {ow ow' : Addr → Prop} {er er' : Er} {c c' : Nat} {H H' : Hp}
/-- a tree stands in a later state: own objects may go (be free from now on) or be new -/
theorem Free.ext {a : Addr} (h : Free g ow a) (ha : H a ≠ none) (hw : ∀ x, ow' x → ow x ∨ H x = none) : Free g ow' a :=
  ⟨h.1, fun z => (hw a z).elim h.2.1 ha, h.2.2⟩
mutual
theorem RepD.ext (x : Ext g ow er c H er' c' H') (hl : OwL ow H) (hs : SaL g H) (hw : ∀ x, ow' x → ow x ∨ H x = none) : ∀ {v : V} {d : D}, RepD g er c H ow v d → RepD g er' c' H' ow' v d
  | _, _, .non => .non
  | _, _, .bl b => .bl b
  | _, _, .int i => .int i
  | _, _, .str s => .str s
  | _, _, .tup h r => .tup (SqT.ext h x hl hs) (RepDs.ext x hl hs hw r)
  | _, _, .lst h he hf r => .lst (x.same _ _ h hf.2.1 hf.2.2.1 hf.2.2.2 rfl) (he.ext x (rd_ne (.inl h))) (hf.ext (rd_ne (.inl h)) hw) (RepDs.ext x hl hs hw r)
  | _, _, .dic h he hf nd r => .dic (Rd.ext h x hf.2.1 hf.2.2.1 hf.2.2.2 rfl) (he.ext x (rd_ne h)) (hf.ext (rd_ne h) hw) nd (RepKs.ext x hl hs hw r)
  | _, _, .fn h hx => .fn h hx
  | _, _, .any v => .any v
  | _, _, .lab h => .lab (RepD.ext x hl hs hw h)
  | _, _, .exc hx h hp hd => .exc hx (x.keep hl hs h (fun _ z => nomatch z) (fun _ z => nomatch z) rfl) hp (hd.up fun a fs q => x.keep hl hs q (fun _ z => nomatch z) (fun _ z => nomatch z) rfl)
theorem RepDs.ext (x : Ext g ow er c H er' c' H') (hl : OwL ow H) (hs : SaL g H) (hw : ∀ x, ow' x → ow x ∨ H x = none) : ∀ {vs : List V} {ds : List D}, RepDs g er c H ow vs ds → RepDs g er' c' H' ow' vs ds
  | _, _, .nil => .nil
  | _, _, .cons h r => .cons (RepD.ext x hl hs hw h) (RepDs.ext x hl hs hw r)
theorem RepKs.ext (x : Ext g ow er c H er' c' H') (hl : OwL ow H) (hs : SaL g H) (hw : ∀ x, ow' x → ow x ∨ H x = none) : ∀ {vs : List (Key × V)} {ds : List (Key × D)}, RepKs g er c H ow vs ds → RepKs g er' c' H' ow' vs ds
  | _, _, .nil => .nil
  | _, _, .cons h r => .cons (RepD.ext x hl hs hw h) (RepKs.ext x hl hs hw r)
end
theorem RepDs.length : ∀ {vs : List V} {ds : List D}, RepDs g er c H ow vs ds → vs.length = ds.length
  | _, _, .nil => rfl
  | _, _, .cons _ r => congrArg (· + 1) (RepDs.length r)
theorem RepDs.get : ∀ {vs : List V} {ds : List D} {i : Nat} {d : D}, RepDs g er c H ow vs ds → ds[i]? = some d → ∃ v, vs[i]? = some v ∧ RepD g er c H ow v d
  | _, _, _, _, .nil, h => by cases h
  | _, _, 0, _, .cons h _, e => by cases e; exact ⟨_, rfl, h⟩
  | _, _, i + 1, d, .cons _ r, e => RepDs.get (i := i) r e
theorem RepDs.append : ∀ {vs ws : List V} {ds es : List D}, RepDs g er c H ow vs ds → RepDs g er c H ow ws es → RepDs g er c H ow (vs ++ ws) (ds ++ es)
  | _, _, _, _, .nil, s => s
  | _, _, _, _, .cons h r, s => .cons h (RepDs.append r s)
theorem RepDs.take : ∀ {vs : List V} {ds : List D} (n : Nat), RepDs g er c H ow vs ds → RepDs g er c H ow (vs.take n) (ds.take n)
  | _, _, 0, _ => .nil
  | _, _, _ + 1, .nil => .nil
  | _, _, n + 1, .cons h r => .cons h (RepDs.take n r)
theorem RepDs.drop : ∀ {vs : List V} {ds : List D} (n : Nat), RepDs g er c H ow vs ds → RepDs g er c H ow (vs.drop n) (ds.drop n)
  | _, _, 0, r => r
  | _, _, _ + 1, .nil => .nil
  | _, _, n + 1, .cons _ r => RepDs.drop n r
theorem RepDs.set : ∀ {vs : List V} {ds : List D} {v : V} {d : D} (i : Nat), RepDs g er c H ow vs ds → RepD g er c H ow v d → RepDs g er c H ow (vs.set i v) (ds.set i d)
  | _, _, _, _, _, .nil, _ => .nil
  | _, _, _, _, 0, .cons _ r, h => .cons h r
  | _, _, _, _, i + 1, .cons k r, h => .cons k (RepDs.set i r h)
theorem RepDs.eraseIdx : ∀ {vs : List V} {ds : List D} (i : Nat), RepDs g er c H ow vs ds → RepDs g er c H ow (vs.eraseIdx i) (ds.eraseIdx i)
  | _, _, _, .nil => .nil
  | _, _, 0, .cons _ r => r
  | _, _, i + 1, .cons k r => .cons k (RepDs.eraseIdx i r)
theorem RepDs.snoc {vs : List V} {ds : List D} {v : V} {d : D} (r : RepDs g er c H ow vs ds) (h : RepD g er c H ow v d) : RepDs g er c H ow (vs ++ [v]) (ds ++ [d]) := r.append (.cons h .nil)
theorem RepDs.reverse : ∀ {vs : List V} {ds : List D}, RepDs g er c H ow vs ds → RepDs g er c H ow vs.reverse ds.reverse
  | _, _, .nil => .nil
  | _, _, .cons h r => by rw [List.reverse_cons, List.reverse_cons]; exact (RepDs.reverse r).snoc h
end

/-! ### closures -/
def LamO (L : LamD) (cl : List (Str × Addr)) (f c' : Addr) (pm ctv : Value) : HO := .ext fun h => h.get? f = some (PySem.W.kla_obj "<lambda>" L.q L.params L.body L.scope cl pm c' ctv)
def CellO (o : Obj) (c : Addr) : HO := .ext fun h => h.get? c = some o
/-- the heap without a frame's cells -/
def hid (cl : List (Str × Addr)) (H : Hp) : Hp := fun b => if b ∈ cl.map (·.2) then none else H b
theorem hid_in {cl : List (Str × Addr)} {H : Hp} {b : Addr} (h : b ∈ cl.map (·.2)) : hid cl H b = none := if_pos h
theorem hid_out {cl : List (Str × Addr)} {H : Hp} {b : Addr} (h : b ∉ cl.map (·.2)) : hid cl H b = H b := if_neg h
theorem hid_some {cl : List (Str × Addr)} {H : Hp} {b : Addr} {o : HO} (h : hid cl H b = some o) : b ∉ cl.map (·.2) ∧ H b = some o := by
  by_cases hb : b ∈ cl.map (·.2)
  · rw [hid_in hb] at h; cases h
  · exact ⟨hb, (hid_out hb).symm.trans h⟩
theorem hid_none {cl : List (Str × Addr)} {H : Hp} {b : Addr} (h : H b = none) : hid cl H b = none := by
  by_cases hb : b ∈ cl.map (·.2)
  · exact hid_in hb
  · rw [hid_out hb]; exact h
def AllCells (cl : List (Str × Addr)) (H : Hp) : Prop := ∀ p ∈ cl, ∃ o, H p.2 = some (CellO o p.2) ∧ ∃ v, o.data = .cell v
/-- the captured names' cells hold these -/
inductive CellsO (H : Hp) (cl : List (Str × Addr)) : List Str → List V → Prop
  | nil : CellsO H cl [] []
  | cons {x : Str} {c : Addr} {o : Obj} {u : Value} {v : V} {xs : List Str} {vs : List V} (h1 : cl.lookup x = some c) (h2 : H c = some (CellO o c)) (h3 : o.data = .cell (some u)) (h4 : RelV v u) (r : CellsO H cl xs vs) : CellsO H cl (x :: xs) (v :: vs)
mutual
inductive RepV (g : Gd) (er : Er) (c : Nat) (ow : Addr → Prop) : Hp → V → D → Prop
  | d {H : Hp} {v : V} {d : D} (h : RepD g er c H ow v d) : RepV g er c ow H v d
  | sta {H : Hp} : RepV g er c ow H (.ref g.sa) .sta
  | clo {H : Hp} {f c' : Addr} {cl : List (Str × Addr)} {n : Nat} {L : LamD} {vs : List V} {ws : List D} {pm ctv : Value} (hL : g.lam n = some L) (hj : ∀ x y b, cl.lookup x = some b → cl.lookup y = some b → x = y) (hf : H f = some (LamO L cl f c' pm ctv)) (hc : H c' = some (LamX.CodeO c' L.q))
      (ha : AllCells cl H) (hv : CellsO H cl L.fr vs) (r : RepVs g er c ow (hid cl H) vs ws) : RepV g er c ow H (.ref f) (.clo n ws)
inductive RepVs (g : Gd) (er : Er) (c : Nat) (ow : Addr → Prop) : Hp → List V → List D → Prop
  | nil {H : Hp} : RepVs g er c ow H [] []
  | cons {H : Hp} {v : V} {d : D} {vs : List V} {ds : List D} (h : RepV g er c ow H v d) (r : RepVs g er c ow H vs ds) : RepVs g er c ow H (v :: vs) (d :: ds)
end
section
variable {g : Gd} {ow ow' : Addr → Prop} {er er' : Er} {c c' : Nat} {H H' : Hp}
theorem ext_free {a : Addr} {φ : Heap → Prop} (h : H a = some (.ext φ)) (hl : OwL ow H) (hs : SaL g H) : ¬ ow a ∧ a ≠ g.sa ∧ a ≠ g.sb := by
  obtain ⟨⟨v1, h1⟩, v2, h2⟩ := hs
  refine ⟨fun z => ?_, fun z => ?_, fun z => ?_⟩
  · rcases hl a z with ⟨xs, q⟩ | ⟨xs, q⟩ <;> rw [h] at q <;> cases q
  · rw [z, h1] at h; cases h
  · rw [z, h2] at h; cases h
theorem Ext.ext {a : Addr} {φ : Heap → Prop} (x : Ext g ow er c H er' c' H') (h : H a = some (.ext φ)) (hl : OwL ow H) (hs : SaL g H) : H' a = some (.ext φ) := by
  obtain ⟨n1, n2, n3⟩ := ext_free h hl hs
  exact x.same a _ h n1 n2 n3 rfl
theorem CellsO.ext {cl : List (Str × Addr)} (x : Ext g ow er c H er' c' H') (hl : OwL ow H) (hs : SaL g H) : ∀ {xs : List Str} {vs : List V}, CellsO H cl xs vs → CellsO H' cl xs vs
  | _, _, .nil => .nil
  | _, _, .cons h1 h2 h3 h4 r => .cons h1 (x.ext h2 hl hs) h3 h4 (CellsO.ext x hl hs r)
theorem hid_own {cl : List (Str × Addr)} (ha : AllCells cl H) {a : Addr} (h : (∃ vs, H a = some (.lst vs)) ∨ ∃ vs, H a = some (.dK vs)) : a ∉ cl.map (·.2) := fun z => by
  obtain ⟨p, hp, e⟩ := List.mem_map.mp z
  obtain ⟨o, q, _⟩ := ha p hp
  rw [e] at q
  rcases h with ⟨vs, h⟩ | ⟨vs, h⟩ <;> rw [h] at q <;> cases q
theorem Ext.hid {cl : List (Str × Addr)} (x : Ext g ow er c H er' c' H') : Ext g ow er c (hid cl H) er' c' (hid cl H') where
  same := fun a o h n1 n2 n3 t => by
    obtain ⟨hb, q⟩ := hid_some h
    rw [hid_out hb]; exact x.same a o q n1 n2 n3 t
  dom := fun a h => by
    by_cases hb : a ∈ cl.map (·.2)
    · rw [hid_in hb] at h; exact absurd rfl h
    · rw [hid_out hb] at h ⊢; exact x.dom a h
  ere := x.ere
  cc := x.cc
  new := fun a e h h1 h2 => by
    by_cases hb : a ∈ cl.map (·.2)
    · rw [hid_in hb] at h; exact absurd rfl h
    · rw [hid_out hb] at h; exact x.new a e h h1 h2
  nfz := fun a o u h => by
    obtain ⟨hb, q⟩ := hid_some h
    rw [hid_out hb]; exact x.nfz a o u q
theorem OwL.hid {cl : List (Str × Addr)} (hl : OwL ow H) (ha : AllCells cl H) : OwL ow (hid cl H) := fun a h => by
  have q := hl a h
  rw [hid_out (hid_own ha q)]; exact q
theorem SaL.hid {cl : List (Str × Addr)} (hs : SaL g H) (ha : AllCells cl H) : SaL g (GW.hid cl H) := by
  obtain ⟨⟨v1, h1⟩, v2, h2⟩ := hs
  exact ⟨⟨v1, by rw [hid_out (hid_own ha (.inl ⟨v1, h1⟩))]; exact h1⟩, v2, by rw [hid_out (hid_own ha (.inl ⟨v2, h2⟩))]; exact h2⟩
mutual
theorem RepV.ext : ∀ {H H' : Hp} {v : V} {d : D}, Ext g ow er c H er' c' H' → OwL ow H → SaL g H → (∀ x, ow' x → ow x ∨ H x = none) → RepV g er c ow H v d → RepV g er' c' ow' H' v d
  | _, _, _, _, x, hl, hs, hw, .d h => .d (RepD.ext x hl hs hw h)
  | _, _, _, _, _, _, _, _, .sta => .sta
  | _, _, _, _, x, hl, hs, hw, .clo hL hj hf hc ha hv r =>
    .clo hL hj (x.ext hf hl hs) (x.ext hc hl hs) (fun p hp => let ⟨o, q, z⟩ := ha p hp; ⟨o, x.ext q hl hs, z⟩) (CellsO.ext x hl hs hv)
      (RepVs.ext x.hid (hl.hid ha) (hs.hid ha) (fun y hy => (hw y hy).imp id hid_none) r)
theorem RepVs.ext : ∀ {H H' : Hp} {vs : List V} {ds : List D}, Ext g ow er c H er' c' H' → OwL ow H → SaL g H → (∀ x, ow' x → ow x ∨ H x = none) → RepVs g er c ow H vs ds → RepVs g er' c' ow' H' vs ds
  | _, _, _, _, _, _, _, _, .nil => .nil
  | _, _, _, _, x, hl, hs, hw, .cons h r => .cons (RepV.ext x hl hs hw h) (RepVs.ext x hl hs hw r)
end
end
end GW

set_option maxHeartbeats 4000000
namespace GW
open PySem PySem.Spec PyProof.Rows L2

/-- the draws, and the era -/
structure Mu where
  cells : List Int
  big : Int
  cnt : Int
  seed : Int
  ec : Nat
/-- a slot: unknown, a value, an own list, an own dict -/
inductive SV where
  | un | val (d : D) | ol (e : Nat) (xs : List D) | od (e : Nat) (kvs : List (Key × D))
  deriving Inhabited
abbrev Ro := List SV
inductive Rs (α : Type) where
  | ok (a : α) (ρ : Ro) (μ : Mu)
  | ex (x : Str) (fs : List (Str × D)) (ρ : Ro) (μ : Mu)
  | no
def Rs.bind {α β : Type} (r : Rs α) (k : α → Ro → Mu → Rs β) : Rs β := match r with
  | .ok a ρ μ => k a ρ μ
  | .ex x fs ρ μ => .ex x fs ρ μ
  | .no => .no
@[simp] theorem Rs.bind_ok {α β : Type} (a : α) (ρ : Ro) (μ : Mu) (k : α → Ro → Mu → Rs β) : (Rs.ok a ρ μ).bind k = k a ρ μ := rfl
@[simp] theorem Rs.bind_ex {α β : Type} (x : Str) (fs : List (Str × D)) (ρ : Ro) (μ : Mu) (k : α → Ro → Mu → Rs β) : (Rs.ex x fs ρ μ : Rs α).bind k = .ex x fs ρ μ := rfl
@[simp] theorem Rs.bind_no {α β : Type} (k : α → Ro → Mu → Rs β) : (Rs.no : Rs α).bind k = .no := rfl

def isOw (ρ : Ro) (i : Nat) : Prop := (∃ e xs, ρ[i]? = some (SV.ol e xs)) ∨ ∃ e kvs, ρ[i]? = some (SV.od e kvs)
def Ow (ρ : Ro) (σ : St) (a : Addr) : Prop := ∃ i, isOw ρ i ∧ σ[i]? = some (some (V.ref a))

structure RepEnv (g : Gd) (er : Er) (c : Nat) (H : Hp) (ρ : Ro) (σ : St) : Prop where
  len : ρ.length = σ.length
  val : ∀ (i : Nat) (d : D), ρ[i]? = some (SV.val d) → ∃ v, σ[i]? = some (some v) ∧ RepV g er c (Ow ρ σ) H v d
  ol : ∀ (i e : Nat) (xs : List D), ρ[i]? = some (SV.ol e xs) → ∃ a vs, σ[i]? = some (some (V.ref a)) ∧ H a = some (.lst vs) ∧ EraOk er c e a ∧ RepDs g er c H (Ow ρ σ) vs xs ∧ ¬ g.av a ∧ a ≠ g.sa ∧ a ≠ g.sb
  od : ∀ (i e : Nat) (xs : List (Key × D)), ρ[i]? = some (SV.od e xs) → ∃ a vs, σ[i]? = some (some (V.ref a)) ∧ H a = some (.dK vs) ∧ EraOk er c e a ∧ (vs.map (·.1)).Nodup ∧ RepKs g er c H (Ow ρ σ) vs xs ∧ ¬ g.av a ∧ a ≠ g.sa ∧ a ≠ g.sb
  inj : ∀ (i j : Nat) (a : Addr), isOw ρ i → isOw ρ j → σ[i]? = some (some (V.ref a)) → σ[j]? = some (some (V.ref a)) → i = j

/-- what holds of the draws -/
structure MuOk (μ : Mu) : Prop where
  n : μ.cells.length ≤ 63
  bits : ∀ i ∈ μ.cells, i.natAbs < 2 ^ 1048576
  b0 : 0 ≤ μ.big
  b1 : μ.big < 2 ^ 1048576
  c0 : 0 ≤ μ.cnt
  c1 : μ.cnt < 2 ^ 40
  s0 : 0 ≤ μ.seed
  s1 : μ.seed < 2 ^ 31

structure HpOk (g : Gd) (er : Er) (H : Hp) (μ : Mu) : Prop where
  sa : H g.sa = some (.lst [.ref g.sb, .int μ.big, .int μ.cnt, .int μ.seed])
  sb : H g.sb = some (.lst (μ.cells.map V.int))
  ne : g.sa ≠ g.sb
  mu : MuOk μ
  er : ∀ a, er μ.ec a → H a ≠ none
  tabs : LamX.Tabs g.T H
  av : ∀ a, g.av a → H a ≠ none
  nav : ¬ g.av g.sa ∧ ¬ g.av g.sb
theorem HpOk.sal {g : Gd} {er : Er} {H : Hp} {μ : Mu} (h : HpOk g er H μ) : SaL g H := ⟨⟨_, h.sa⟩, _, h.sb⟩
theorem RepEnv.owl {g : Gd} {er : Er} {c : Nat} {H : Hp} {ρ : Ro} {σ : St} (h : RepEnv g er c H ρ σ) : OwL (Ow ρ σ) H := fun a ⟨i, ho, hs⟩ => by
  rcases ho with ⟨e, xs, q⟩ | ⟨e, xs, q⟩
  · obtain ⟨a', vs, h1, h2, _⟩ := h.ol i e xs q
    rw [hs] at h1; cases h1
    exact .inl ⟨_, h2⟩
  · obtain ⟨a', vs, h1, h2, _⟩ := h.od i e xs q
    rw [hs] at h1; cases h1
    exact .inr ⟨_, h2⟩

/-- a value beside a tree, or beside an own slot -/
def RepO (g : Gd) (er : Er) (c : Nat) (H : Hp) (ρ : Ro) (σ : St) (v : V) : D → Prop
  | .own i => σ[i]? = some (some v)
  | d => RepV g er c (Ow ρ σ) H v d

structure Nx (g : Gd) (σ : St) (er : Er) (H : Hp) (ρ : Ro) (μ : Mu) (er' : Er) (H' : Hp) (ρ' : Ro) (μ' : Mu) : Prop where
  x : Ext g (Ow ρ σ) er μ.ec H er' μ'.ec H'
  env : RepEnv g er' μ'.ec H' ρ' σ
  hp : HpOk g er' H' μ'
  ow : ∀ a, Ow ρ' σ a → Ow ρ σ a ∨ H a = none
theorem Nx.refl {g : Gd} {σ : St} {er : Er} {H : Hp} {ρ : Ro} {μ : Mu} (E : RepEnv g er μ.ec H ρ σ) (P : HpOk g er H μ) : Nx g σ er H ρ μ er H ρ μ := ⟨Ext.refl .., E, P, fun _ h => .inl h⟩
theorem Nx.trans {g : Gd} {σ : St} {er er1 er2 : Er} {H H1 H2 : Hp} {ρ ρ1 ρ2 : Ro} {μ μ1 μ2 : Mu} (a : Nx g σ er H ρ μ er1 H1 ρ1 μ1) (b : Nx g σ er1 H1 ρ1 μ1 er2 H2 ρ2 μ2) : Nx g σ er H ρ μ er2 H2 ρ2 μ2 :=
  ⟨a.x.trans b.x a.ow, b.env, b.hp, fun x h => (b.ow x h).elim (a.ow x) fun q => by
    by_cases hx : H x = none
    · exact .inr hx
    · exact absurd q (a.x.dom x hx)⟩
theorem RepO.nx {g : Gd} {σ : St} {er er' : Er} {H H' : Hp} {ρ ρ' : Ro} {μ μ' : Mu} {v : V} {d : D} (n : Nx g σ er H ρ μ er' H' ρ' μ') (E : RepEnv g er μ.ec H ρ σ) (P : HpOk g er H μ) (h : RepO g er μ.ec H ρ σ v d) : RepO g er' μ'.ec H' ρ' σ v d := by
  cases d with
  | own i => exact h
  | _ => exact RepV.ext n.x E.owl P.sal n.ow h
theorem RepO.of {g : Gd} {σ : St} {er : Er} {c : Nat} {H : Hp} {ρ : Ro} {v : V} {d : D} (h : RepV g er c (Ow ρ σ) H v d) : RepO g er c H ρ σ v d := by
  cases d with
  | own i => cases h with | d h => cases h
  | _ => exact h
theorem RepO.d {g : Gd} {σ : St} {er : Er} {c : Nat} {H : Hp} {ρ : Ro} {v : V} {d : D} (h : RepD g er c H (Ow ρ σ) v d) : RepO g er c H ρ σ v d := .of (.d h)

/-- an exception of the class named x, its fields -/
inductive RepFs (g : Gd) (er : Er) (c : Nat) (ow : Addr → Prop) (H : Hp) : List (Str × V) → List (Str × D) → Prop
  | nil : RepFs g er c ow H [] []
  | cons {f : Str} {v : V} {d : D} {vs : List (Str × V)} {ds : List (Str × D)} (h : RepD g er c H ow v d) (r : RepFs g er c ow H vs ds) : RepFs g er c ow H ((f, v) :: vs) ((f, d) :: ds)
def ExRep (g : Gd) (er : Er) (c : Nat) (ow : Addr → Prop) (H : Hp) (x : Str) (fs : List (Str × D)) (cls : Value) (dd : Addr) : Prop :=
  ∃ C vs, cls = .ref C ∧ g.mg x = some (.ref C) ∧ H dd = some (.xd vs) ∧ RepFs g er c ow H vs fs

/-- what a result asks -/
def Den (g : Gd) (W : WX) (σ : St) (er : Er) (H : Hp) (ρ : Ro) (μ : Mu) (r : Rs D) (Q : VK) : Prop := match r with
  | .ok d ρ' μ' => ∀ v H' er', Nx g σ er H ρ μ er' H' ρ' μ' → RepO g er' μ'.ec H' ρ' σ v d → Q v H'
  | .ex x fs ρ' μ' => ∀ cls dd H' er', Nx g σ er H ρ μ er' H' ρ' μ' → ExRep g er' μ'.ec (Ow ρ' σ) H' x fs cls dd → W cls (some dd) σ H'
  | .no => False
/-- .. of a test -/
def DenT (g : Gd) (W : WX) (σ : St) (er : Er) (H : Hp) (ρ : Ro) (μ : Mu) (r : Rs Bool) (Q : Bool → Hp → Prop) : Prop := match r with
  | .ok b ρ' μ' => ∀ H' er', Nx g σ er H ρ μ er' H' ρ' μ' → Q b H'
  | .ex x fs ρ' μ' => ∀ cls dd H' er', Nx g σ er H ρ μ er' H' ρ' μ' → ExRep g er' μ'.ec (Ow ρ' σ) H' x fs cls dd → W cls (some dd) σ H'
  | .no => False
inductive RepOs (g : Gd) (er : Er) (c : Nat) (H : Hp) (ρ : Ro) (σ : St) : List V → List D → Prop
  | nil : RepOs g er c H ρ σ [] []
  | cons {v : V} {d : D} {vs : List V} {ds : List D} (h : RepO g er c H ρ σ v d) (r : RepOs g er c H ρ σ vs ds) : RepOs g er c H ρ σ (v :: vs) (d :: ds)
theorem RepOs.nx {g : Gd} {σ : St} {er er' : Er} {H H' : Hp} {ρ ρ' : Ro} {μ μ' : Mu} {vs : List V} {ds : List D} (n : Nx g σ er H ρ μ er' H' ρ' μ') (E : RepEnv g er μ.ec H ρ σ) (P : HpOk g er H μ) (h : RepOs g er μ.ec H ρ σ vs ds) : RepOs g er' μ'.ec H' ρ' σ vs ds := by
  induction h with
  | nil => exact .nil
  | cons h r ih => exact .cons (h.nx n E P) ih
def DenA (g : Gd) (W : WX) (σ : St) (er : Er) (H : Hp) (ρ : Ro) (μ : Mu) (r : Rs (List D)) (Q : List V → Hp → Prop) : Prop := match r with
  | .ok ds ρ' μ' => ∀ vs H' er', Nx g σ er H ρ μ er' H' ρ' μ' → RepOs g er' μ'.ec H' ρ' σ vs ds → Q vs H'
  | .ex x fs ρ' μ' => ∀ cls dd H' er', Nx g σ er H ρ μ er' H' ρ' μ' → ExRep g er' μ'.ec (Ow ρ' σ) H' x fs cls dd → W cls (some dd) σ H'
  | .no => False

theorem Den.nx {g : Gd} {W : WX} {σ : St} {er er1 : Er} {H H1 : Hp} {ρ ρ1 : Ro} {μ μ1 : Mu} {r : Rs D} {Q : VK} (n : Nx g σ er H ρ μ er1 H1 ρ1 μ1) (h : Den g W σ er H ρ μ r Q) : Den g W σ er1 H1 ρ1 μ1 r Q := by
  cases r with
  | ok d ρ' μ' => exact fun v H' er' m q => h v H' er' (n.trans m) q
  | ex x fs ρ' μ' => exact fun cls dd H' er' m q => h cls dd H' er' (n.trans m) q
  | no => exact h
theorem DenT.nx {g : Gd} {W : WX} {σ : St} {er er1 : Er} {H H1 : Hp} {ρ ρ1 : Ro} {μ μ1 : Mu} {r : Rs Bool} {Q : Bool → Hp → Prop} (n : Nx g σ er H ρ μ er1 H1 ρ1 μ1) (h : DenT g W σ er H ρ μ r Q) : DenT g W σ er1 H1 ρ1 μ1 r Q := by
  cases r with
  | ok d ρ' μ' => exact fun H' er' m => h H' er' (n.trans m)
  | ex x fs ρ' μ' => exact fun cls dd H' er' m q => h cls dd H' er' (n.trans m) q
  | no => exact h
theorem DenA.nx {g : Gd} {W : WX} {σ : St} {er er1 : Er} {H H1 : Hp} {ρ ρ1 : Ro} {μ μ1 : Mu} {r : Rs (List D)} {Q : List V → Hp → Prop} (n : Nx g σ er H ρ μ er1 H1 ρ1 μ1) (h : DenA g W σ er H ρ μ r Q) : DenA g W σ er1 H1 ρ1 μ1 r Q := by
  cases r with
  | ok d ρ' μ' => exact fun v H' er' m q => h v H' er' (n.trans m) q
  | ex x fs ρ' μ' => exact fun cls dd H' er' m q => h cls dd H' er' (n.trans m) q
  | no => exact h

/-! ### what a piece of syntax does -/
def RunE (X : Cx) (e : Expr) (σ : St) (H : Hp) (Q : VK) : Prop := ∀ (pins : List (Addr × Obj)) (s : Shared), Inv X pins σ H s → wpAny (model X.prog X.w) X.A (eval e X.env) (EP X pins σ Q) X.xe s
def RunT (X : Cx) (e : Expr) (σ : St) (H : Hp) (Q : Bool → Hp → Prop) : Prop := ∀ (pins : List (Addr × Obj)) (s : Shared), Inv X pins σ H s → wpAny (model X.prog X.w) X.A (isTrue e X.env (eval e X.env)) (TP X pins σ Q) X.xe s
def RunA (X : Cx) (es : List Expr) (σ : St) (H : Hp) (Q : List V → Hp → Prop) : Prop := ∀ (pos : Pos) (pins : List (Addr × Obj)) (s : Shared), Inv X pins σ H s → wpAny (model X.prog X.w) X.A (spliced (backTo pos (starEach es X.env))) (AP X pins σ Q) X.xe s
def RunS (X : Cx) (st : Stmt) (D : Ends) (σ : St) (H : Hp) : Prop := ∀ (pins : List (Addr × Obj)) (s : Shared), Inv X pins σ H s → wpAny (model X.prog X.w) X.A (exec st X.env) (SP X pins D) X.xe s
def RunSs (X : Cx) (st : List Stmt) (D : Ends) (σ : St) (H : Hp) : Prop := ∀ (pins : List (Addr × Obj)) (s : Shared), Inv X pins σ H s → wpAny (model X.prog X.w) X.A (execs st X.env) (SP X pins D) X.xe s
theorem peR {X : Cx} {e : Expr} : PE X e (RunE X e) := ⟨fun pins s σ H Q I h => h pins s I⟩
theorem ptR {X : Cx} {e : Expr} : PT X e (RunT X e) := ⟨fun pins s σ H Q I h => h pins s I⟩
theorem paR {X : Cx} {es : List Expr} : PA X es (RunA X es) := ⟨fun pos pins s σ H Q I h => h pos pins s I⟩
theorem psR {X : Cx} {st : Stmt} : PS X st (RunS X st) := ⟨fun pins s σ H D I h => h pins s I⟩
theorem pssR {X : Cx} {st : List Stmt} : PSs X st (RunSs X st) := ⟨fun pins s σ H D I h => h pins s I⟩
theorem RunE.of {X : Cx} {e : Expr} {t : TE} {σ : St} {H : Hp} {Q : VK} (h : PE X e t) (q : t σ H Q) : RunE X e σ H Q := fun pins s I => h.run pins s σ H Q I q
theorem RunT.of {X : Cx} {e : Expr} {t : TT} {σ : St} {H : Hp} {Q : Bool → Hp → Prop} (h : PT X e t) (q : t σ H Q) : RunT X e σ H Q := fun pins s I => h.run pins s σ H Q I q
theorem RunA.of {X : Cx} {es : List Expr} {t : TA} {σ : St} {H : Hp} {Q : List V → Hp → Prop} (h : PA X es t) (q : t σ H Q) : RunA X es σ H Q := fun pos pins s I => h.run pos pins s σ H Q I q
theorem RunS.of {X : Cx} {st : Stmt} {t : TS} {σ : St} {H : Hp} {D : Ends} (h : PS X st t) (q : t D σ H) : RunS X st D σ H := fun pins s I => h.run pins s σ H D I q
theorem RunSs.of {X : Cx} {st : List Stmt} {t : TS} {σ : St} {H : Hp} {D : Ends} (h : PSs X st t) (q : t D σ H) : RunSs X st D σ H := fun pins s I => h.run pins s σ H D I q
theorem RunE.mono {X : Cx} {e : Expr} {σ : St} {H : Hp} {Q Q' : VK} (h : RunE X e σ H Q) (q : ∀ v H', Q v H' → Q' v H') : RunE X e σ H Q' := fun pins s I => thn (h pins s I) fun _ _ ⟨v, H', I', r, k⟩ => ⟨v, H', I', r, q v H' k⟩

/-- the same but for what belongs to callers -/
abbrev Gd.at (g : Gd) (av : Addr → Prop) : Gd := { g with av := av }
def OkE (g : Gd) (X : Cx) (e : Expr) (f : Ro → Mu → Rs D) : Prop := ∀ (av : Addr → Prop) (W : WX) (σ : St) (er : Er) (H : Hp) (ρ : Ro) (μ : Mu) (Q : VK), Takes X W → RepEnv (g.at av) er μ.ec H ρ σ → HpOk (g.at av) er H μ → Den (g.at av) W σ er H ρ μ (f ρ μ) Q → RunE X e σ H Q
def OkT (g : Gd) (X : Cx) (e : Expr) (f : Ro → Mu → Rs Bool) : Prop := ∀ (av : Addr → Prop) (W : WX) (σ : St) (er : Er) (H : Hp) (ρ : Ro) (μ : Mu) (Q : Bool → Hp → Prop), Takes X W → RepEnv (g.at av) er μ.ec H ρ σ → HpOk (g.at av) er H μ → DenT (g.at av) W σ er H ρ μ (f ρ μ) Q → RunT X e σ H Q
def OkA (g : Gd) (X : Cx) (es : List Expr) (f : Ro → Mu → Rs (List D)) : Prop := ∀ (av : Addr → Prop) (W : WX) (σ : St) (er : Er) (H : Hp) (ρ : Ro) (μ : Mu) (Q : List V → Hp → Prop), Takes X W → RepEnv (g.at av) er μ.ec H ρ σ → HpOk (g.at av) er H μ → DenA (g.at av) W σ er H ρ μ (f ρ μ) Q → RunA X es σ H Q

section
variable {g : Gd} {X : Cx} {W : WX} {σ : St} {er : Er} {H : Hp} {ρ : Ro} {μ : Mu}
/-- one after the other: the first one -/
theorem den_then {r : Rs D} {k : D → Ro → Mu → Rs D} {Q : VK} {R : VK} (h : Den g W σ er H ρ μ (r.bind k) Q)
    (q : ∀ d ρ1 μ1 v H1 er1, r = .ok d ρ1 μ1 → Nx g σ er H ρ μ er1 H1 ρ1 μ1 → RepO g er1 μ1.ec H1 ρ1 σ v d → Den g W σ er1 H1 ρ1 μ1 (k d ρ1 μ1) Q → R v H1) : Den g W σ er H ρ μ r R := by
  cases r with
  | ok d ρ1 μ1 => exact fun v H1 er1 n hv => q d ρ1 μ1 v H1 er1 rfl n hv (Den.nx n h)
  | ex x fs ρ' μ' => exact h
  | no => exact h
/-- two operands, then a rule by values -/
theorem run_two {av : Addr → Prop} {a b : Expr} {fa fb : Ro → Mu → Rs D} (Oa : OkE g X a fa) (Ob : OkE g X b fb) (tk : Takes X W) (E : RepEnv (g.at av) er μ.ec H ρ σ) (P : HpOk (g.at av) er H μ) {k : D → D → Ro → Mu → Rs D} {Q : VK} {R : V → V → Hp → Prop}
    (h : Den (g.at av) W σ er H ρ μ ((fa ρ μ).bind fun x ρ1 μ1 => (fb ρ1 μ1).bind fun y ρ2 μ2 => k x y ρ2 μ2) Q)
    (q : ∀ x y ρ2 μ2 v u H2 er2, RepEnv (g.at av) er2 μ2.ec H2 ρ2 σ → HpOk (g.at av) er2 H2 μ2 → RepO (g.at av) er2 μ2.ec H2 ρ2 σ v x → RepO (g.at av) er2 μ2.ec H2 ρ2 σ u y → Den (g.at av) W σ er2 H2 ρ2 μ2 (k x y ρ2 μ2) Q → R v u H2) :
    RunE X a σ H fun v H1 => RunE X b σ H1 fun u H2 => R v u H2 := by
  refine Oa av W σ er H ρ μ _ tk E P (den_then h fun x ρ1 μ1 v H1 er1 _ n1 h1 h' => ?_)
  refine Ob av W σ er1 H1 ρ1 μ1 _ tk n1.env n1.hp (den_then h' fun y ρ2 μ2 u H2 er2 _ n2 h2 h'' => ?_)
  exact q x y ρ2 μ2 v u H2 er2 n2.env n2.hp (h1.nx n2 n1.env n1.hp) h2 h''
theorem run_one {av : Addr → Prop} {a : Expr} {fa : Ro → Mu → Rs D} (Oa : OkE g X a fa) (tk : Takes X W) (E : RepEnv (g.at av) er μ.ec H ρ σ) (P : HpOk (g.at av) er H μ) {k : D → Ro → Mu → Rs D} {Q : VK} {R : V → Hp → Prop}
    (h : Den (g.at av) W σ er H ρ μ ((fa ρ μ).bind k) Q)
    (q : ∀ x ρ1 μ1 v H1 er1, RepEnv (g.at av) er1 μ1.ec H1 ρ1 σ → HpOk (g.at av) er1 H1 μ1 → RepO (g.at av) er1 μ1.ec H1 ρ1 σ v x → Den (g.at av) W σ er1 H1 ρ1 μ1 (k x ρ1 μ1) Q → R v H1) :
    RunE X a σ H R :=
  Oa av W σ er H ρ μ _ tk E P (den_then h fun x ρ1 μ1 v H1 er1 _ n1 h1 h' => q x ρ1 μ1 v H1 er1 n1.env n1.hp h1 h')
/-- a flat result -/
theorem den_ok {d : D} {Q : VK} {v : V} (h : Den g W σ er H ρ μ (.ok d ρ μ) Q) (E : RepEnv g er μ.ec H ρ σ) (P : HpOk g er H μ) (r : RepO g er μ.ec H ρ σ v d) : Q v H := h v H er (.refl E P) r
end
end GW

set_option maxHeartbeats 4000000
namespace GW
open PySem PySem.Spec PyProof.Rows L2

/-- with what stands outside the own objects told, a tree at hand (its own top may be an own object) -/
inductive RepQ (g : Gd) (er : Er) (c : Nat) (H : Hp) (ow : Addr → Prop) : V → D → Prop
  | lst {a : Addr} {e : Nat} {vs : List V} {ds : List D} (h : H a = some (.lst vs)) (r : RepDs g er c H ow vs ds) : RepQ g er c H ow (.ref a) (.lst e ds)
  | dic {a : Addr} {e : Nat} {vs : List (Key × V)} {ds : List (Key × D)} (h : Rd H a (.dK vs)) (nd : (vs.map (·.1)).Nodup) (r : RepKs g er c H ow vs ds) : RepQ g er c H ow (.ref a) (.dic e ds)
  | tup {a : Addr} {vs : List V} {ds : List D} (h : SqT g.K H a vs) (r : RepDs g er c H ow vs ds) : RepQ g er c H ow (.ref a) (.tup ds)
  | v {v : V} {d : D} (h : RepV g er c ow H v d) (n1 : ∀ e xs, d ≠ .lst e xs) (n2 : ∀ e xs, d ≠ .dic e xs) (n3 : ∀ xs, d ≠ .tup xs) : RepQ g er c H ow v d
theorem RepQ.ofV {g : Gd} {er : Er} {c : Nat} {H : Hp} {ow : Addr → Prop} {v : V} {d : D} (h : RepV g er c ow H v d) : RepQ g er c H ow v d := by
  cases h with
  | d h =>
    cases h with
    | lst h he hf r => exact .lst h r
    | dic h he hf nd r => exact .dic h nd r
    | tup h r => exact .tup h r
    | non => exact .v (.d .non) (fun _ _ z => nomatch z) (fun _ _ z => nomatch z) (fun _ z => nomatch z)
    | bl b => exact .v (.d (.bl b)) (fun _ _ z => nomatch z) (fun _ _ z => nomatch z) (fun _ z => nomatch z)
    | int b => exact .v (.d (.int b)) (fun _ _ z => nomatch z) (fun _ _ z => nomatch z) (fun _ z => nomatch z)
    | str b => exact .v (.d (.str b)) (fun _ _ z => nomatch z) (fun _ _ z => nomatch z) (fun _ z => nomatch z)
    | fn h hx => exact .v (.d (.fn h hx)) (fun _ _ z => nomatch z) (fun _ _ z => nomatch z) (fun _ z => nomatch z)
    | any v => exact .v (.d (.any v)) (fun _ _ z => nomatch z) (fun _ _ z => nomatch z) (fun _ z => nomatch z)
    | lab h => exact .v (.d (.lab h)) (fun _ _ z => nomatch z) (fun _ _ z => nomatch z) (fun _ z => nomatch z)
    | exc a b c d => exact .v (.d (.exc a b c d)) (fun _ _ z => nomatch z) (fun _ _ z => nomatch z) (fun _ z => nomatch z)
  | sta => exact .v .sta (fun _ _ z => nomatch z) (fun _ _ z => nomatch z) (fun _ z => nomatch z)
  | clo a b c d e f h => exact .v (.clo a b c d e f h) (fun _ _ z => nomatch z) (fun _ _ z => nomatch z) (fun _ z => nomatch z)

/-- what a value at hand stands for: an own slot's content -/
def rsv (ρ : Ro) : D → Option D
  | .own i => match ρ[i]? with
    | some (.ol e xs) => some (.lst e xs)
    | some (.od e xs) => some (.dic e xs)
    | some (.val d) => some d
    | _ => none
  | d => some d
theorem rsv_own (ρ : Ro) (i : Nat) : rsv ρ (.own i) = match ρ[i]? with
    | some (.ol e xs) => some (.lst e xs)
    | some (.od e xs) => some (.dic e xs)
    | some (.val d) => some d
    | _ => none := rfl
section
variable {g : Gd} {X : Cx} {W : WX} {σ : St} {er : Er} {H : Hp} {ρ : Ro} {μ : Mu} {c : Nat}
theorem rsv_ok {v : V} {d d' : D} (E : RepEnv g er c H ρ σ) (h : RepO g er c H ρ σ v d) (e : rsv ρ d = some d') : RepQ g er c H (Ow ρ σ) v d' := by
  cases d with
  | own i =>
    have hs : σ[i]? = some (some v) := h
    rw [rsv_own] at e
    cases q : ρ[i]? with
    | none => rw [q] at e; cases e
    | some sv =>
      rw [q] at e
      cases sv with
      | un => cases e
      | val d =>
        cases e
        obtain ⟨v', h1, h2⟩ := E.val i _ q
        rw [hs] at h1; cases h1
        exact .ofV h2
      | ol e' xs =>
        cases e
        obtain ⟨a, vs, h1, h2, h3, h4, _⟩ := E.ol i e' xs q
        rw [hs] at h1; cases h1
        exact .lst h2 h4
      | od e' xs =>
        cases e
        obtain ⟨a, vs, h1, h2, h3, h4, h5, _⟩ := E.od i e' xs q
        rw [hs] at h1; cases h1
        exact .dic (.inl h2) h4 h5
  | _ => cases e; exact .ofV h

/-! ### a new object -/
theorem ext_new {p : Addr} {o : HO} (ow : Addr → Prop) (hp : H p = none) (hz : ∀ o' u, o ≠ .frz o' u := by intro _ _ z; cases z) : Ext g ow er c H er c (upd H p o) :=
  ⟨fun a o' h _ _ _ _ => by rw [upd_ne (ne_of_none h hp)]; exact h, fun a h => by
    by_cases e : a = p
    · rw [e, upd_same]; exact fun z => nomatch z
    · rw [upd_ne e]; exact h, fun _ _ => rfl, Nat.le_refl _, fun _ _ _ h1 h2 => absurd (Nat.lt_of_lt_of_le h1 h2) (Nat.lt_irrefl _), fun a o' u h => by
    by_cases e : a = p
    · rw [e, upd_same] at h; exact absurd (Option.some.inj h) (hz o' u)
    · rw [upd_ne e] at h; exact h⟩
/-- all that is tracked stays -/
def Sm (H H' : Hp) : Prop := ∀ a o, H a = some o → isTbl o = false → H' a = some o
theorem RepEnv.sm {er' : Er} {c' : Nat} {H' : Hp} (E : RepEnv g er c H ρ σ) (hs : SaL g H) (x : Ext g (Ow ρ σ) er c H er' c' H') (sm : Sm H H') : RepEnv g er' c' H' ρ σ where
  len := E.len
  val := fun i d h => let ⟨v, h1, h2⟩ := E.val i d h; ⟨v, h1, RepV.ext x E.owl hs (fun _ => .inl) h2⟩
  ol := fun i e xs h => let ⟨a, vs, h1, h2, h3, h4, h5⟩ := E.ol i e xs h; ⟨a, vs, h1, sm a _ h2 rfl, h3.ext x (by rw [h2]; exact fun z => nomatch z), RepDs.ext x E.owl hs (fun _ => .inl) h4, h5⟩
  od := fun i e xs h => let ⟨a, vs, h1, h2, h3, h4, h5, h6⟩ := E.od i e xs h; ⟨a, vs, h1, sm a _ h2 rfl, h3.ext x (by rw [h2]; exact fun z => nomatch z), h4, RepKs.ext x E.owl hs (fun _ => .inl) h5, h6⟩
  inj := E.inj
theorem nx_new {p : Addr} {o : HO} (E : RepEnv g er μ.ec H ρ σ) (P : HpOk g er H μ) (hp : H p = none) (hz : ∀ o' u, o ≠ .frz o' u := by intro _ _ z; cases z) : Nx g σ er H ρ μ er (upd H p o) ρ μ where
  x := ext_new _ hp hz
  env := E.sm P.sal (ext_new _ hp hz) fun a o' h _ => by rw [upd_ne (ne_of_none h hp)]; exact h
  hp := ⟨by rw [upd_ne (ne_of_none P.sa hp)]; exact P.sa, by rw [upd_ne (ne_of_none P.sb hp)]; exact P.sb, P.ne, P.mu, fun a h => (ext_new (g := g) (er := er) (c := 0) (fun _ => False) hp hz).dom a (P.er a h),
    P.tabs.ext fun a o' h => by rw [upd_ne (ne_of_none h hp)]; exact h, fun a h => (ext_new (g := g) (er := er) (c := 0) (fun _ => False) hp hz).dom a (P.av a h), P.nav⟩
  ow := fun a h => .inl h
theorem era_new {p : Addr} (P : HpOk g er H μ) (hp : H p = none) : EraOk er μ.ec μ.ec p := ⟨Nat.le_refl _, fun z => P.er p z hp, fun _ h1 h2 => absurd (Nat.lt_of_lt_of_le h1 h2) (Nat.lt_irrefl _)⟩
theorem free_new {p : Addr} (E : RepEnv g er c H ρ σ) (P : HpOk g er H μ) (hp : H p = none) : Free g (Ow ρ σ) p :=
  ⟨(fun z => P.av p z hp), (fun z => (E.owl p z).elim (fun ⟨_, q⟩ => by rw [hp] at q; cases q) (fun ⟨_, q⟩ => by rw [hp] at q; cases q)), (fun z => by rw [z, P.sa] at hp; cases hp), (fun z => by rw [z, P.sb] at hp; cases hp)⟩
theorem rep_new {p : Addr} {o : HO} {v : V} {d : D} (E : RepEnv g er μ.ec H ρ σ) (P : HpOk g er H μ) (hp : H p = none) (r : RepD g er μ.ec H (Ow ρ σ) v d) (hz : ∀ o' u, o ≠ .frz o' u := by intro _ _ z; cases z) : RepD g er μ.ec (upd H p o) (Ow ρ σ) v d :=
  RepD.ext (ext_new _ hp hz) E.owl P.sal (fun _ => .inl) r
theorem reps_new {p : Addr} {o : HO} {v : List V} {d : List D} (E : RepEnv g er μ.ec H ρ σ) (P : HpOk g er H μ) (hp : H p = none) (r : RepDs g er μ.ec H (Ow ρ σ) v d) (hz : ∀ o' u, o ≠ .frz o' u := by intro _ _ z; cases z) : RepDs g er μ.ec (upd H p o) (Ow ρ σ) v d :=
  RepDs.ext (ext_new _ hp hz) E.owl P.sal (fun _ => .inl) r
/-- a new list of these, as a result -/
theorem den_lst {Q : VK} {p : Addr} {vs : List V} {ds : List D} (h : Den g W σ er H ρ μ (.ok (.lst μ.ec ds) ρ μ) Q) (E : RepEnv g er μ.ec H ρ σ) (P : HpOk g er H μ) (r : RepDs g er μ.ec H (Ow ρ σ) vs ds) (hp : H p = none) : Q (.ref p) (upd H p (.lst vs)) :=
  h _ _ er (nx_new E P hp) (.d (.lst upd_same (era_new P hp) (free_new E P hp) (reps_new E P hp r)))
theorem den_tup {Q : VK} {p : Addr} {vs : List V} {ds : List D} (h : Den g W σ er H ρ μ (.ok (.tup ds) ρ μ) Q) (E : RepEnv g er μ.ec H ρ σ) (P : HpOk g er H μ) (r : RepDs g er μ.ec H (Ow ρ σ) vs ds) (hp : H p = none) : Q (.ref p) (upd H p (.tup vs)) :=
  h _ _ er (nx_new E P hp) (.d (.tup (.inl (.inl upd_same)) (reps_new E P hp r)))
theorem den_d {d : D} {Q : VK} {v : V} (h : Den g W σ er H ρ μ (.ok d ρ μ) Q) (E : RepEnv g er μ.ec H ρ σ) (P : HpOk g er H μ) (r : RepD g er μ.ec H (Ow ρ σ) v d) : Q v H := den_ok h E P (.d r)
end

/-! ### operators -/
def RunO (X : Cx) (f : Value → Value → Sem Value) : R2 := fun x y H Q => ∀ (pins : List (Addr × Obj)) (s : Shared) (σ : St) (v u : Value), Inv X pins σ H s → RelV x v → RelV y u → wpAny (model X.prog X.w) X.A (f v u) (EP X pins σ Q) X.xe s
theorem opR {X : Cx} {f : Value → Value → Sem Value} : OpR X f (RunO X f) := fun pins s σ H x y v u Q I rx ry h => h pins s σ v u I rx ry
theorem RunO.of {X : Cx} {f : Value → Value → Sem Value} {r : R2} {x y : V} {H : Hp} {Q : VK} (h : OpR X f r) (q : r x y H Q) : RunO X f x y H Q := fun pins s σ v u I rx ry => h pins s σ H x y v u Q I rx ry q

/-- a result that changes no slot -/
def ret (o : Option D) (ρ : Ro) (μ : Mu) : Rs D := match o with
  | some d => .ok d ρ μ
  | none => .no
@[simp] theorem ret_some (d : D) (ρ : Ro) (μ : Mu) : ret (some d) ρ μ = .ok d ρ μ := rfl
@[simp] theorem ret_none (ρ : Ro) (μ : Mu) : ret none ρ μ = .no := rfl
def szB (n : Nat) : Bool := decide (n ≤ sizeLine)
def mulB (i j : Int) : Bool := decide ((-(2 ^ 64) < i ∧ i < 2 ^ 64) ∨ (-(2 ^ 64) < j ∧ j < 2 ^ 64))
def opBin (c : Nat) : Operator → D → D → Option D
  | .Add, .int i, .int j => some (.int (i + j))
  | .Add, .str i, .str j => if szB (i.length + j.length) then some (.str (i ++ j)) else none
  | .Add, .lst _ xs, .lst _ ys => if szB (xs.length + ys.length) then some (.lst c (xs ++ ys)) else none
  | .Add, .tup xs, .tup ys => if szB (xs.length + ys.length) then some (.tup (xs ++ ys)) else none
  | .Sub, .int i, .int j => some (.int (i - j))
  | .Mult, .int i, .int j => if mulB i j then some (.int (i * j)) else none
  | .Mult, .lst _ xs, .int k => if decide (-(2 ^ 63) ≤ k ∧ k < 2 ^ 63) && szB (xs.length * k.toNat) then some (.lst c (List.replicate k.toNat xs).flatten) else none
  | .FloorDiv, .int i, .int j => if decide (0 < j ∧ j < 1073741824) then some (.int (i / j)) else none
  | .Mod, .int i, .int j => if decide (0 < j) then some (.int (i % j)) else none
  | .Pow, .int i, .int j => if decide (0 ≤ j ∧ j ≤ 1000000 ∧ i.natAbs < 2 ^ 64) then some (.int (i ^ j.toNat)) else none
  | _, _, _ => none
section
variable {g : Gd} {X : Cx} {W : WX} {σ : St} {er : Er} {H : Hp} {ρ : Ro} {μ : Mu} {c : Nat}
theorem repDs_rep {vs : List V} {ds : List D} {ow : Addr → Prop} (r : RepDs g er c H ow vs ds) : ∀ k : Nat, RepDs g er c H ow (List.replicate k vs).flatten (List.replicate k ds).flatten
  | 0 => .nil
  | k + 1 => by rw [List.replicate_succ, List.replicate_succ, List.flatten_cons, List.flatten_cons]; exact r.append (repDs_rep r k)
theorem q_int {ow : Addr → Prop} {v : V} {i : Int} (h : RepQ g er c H ow v (.int i)) : v = .int i := by
  cases h with | v h => cases h with | d h => cases h; rfl
theorem q_str {ow : Addr → Prop} {v : V} {i : Str} (h : RepQ g er c H ow v (.str i)) : v = .str i := by
  cases h with | v h => cases h with | d h => cases h; rfl
theorem q_bl {ow : Addr → Prop} {v : V} {i : Bool} (h : RepQ g er c H ow v (.bl i)) : v = .bl i := by
  cases h with | v h => cases h with | d h => cases h; rfl
theorem q_non {ow : Addr → Prop} {v : V} (h : RepQ g er c H ow v .non) : v = .non := by
  cases h with | v h => cases h with | d h => cases h; rfl
theorem q_lst {ow : Addr → Prop} {v : V} {e : Nat} {xs : List D} (h : RepQ g er c H ow v (.lst e xs)) : ∃ a vs, v = .ref a ∧ H a = some (.lst vs) ∧ RepDs g er c H ow vs xs := by
  cases h with
  | lst h r => exact ⟨_, _, rfl, h, r⟩
  | v h n1 _ _ => exact absurd rfl (n1 _ _)
theorem q_dic {ow : Addr → Prop} {v : V} {e : Nat} {xs : List (Key × D)} (h : RepQ g er c H ow v (.dic e xs)) : ∃ a vs, v = .ref a ∧ Rd H a (.dK vs) ∧ (vs.map (·.1)).Nodup ∧ RepKs g er c H ow vs xs := by
  cases h with
  | dic h nd r => exact ⟨_, _, rfl, h, nd, r⟩
  | v h _ n1 _ => exact absurd rfl (n1 _ _)
theorem q_tup {ow : Addr → Prop} {v : V} {xs : List D} (h : RepQ g er c H ow v (.tup xs)) : ∃ a vs, v = .ref a ∧ SqT g.K H a vs ∧ RepDs g er c H ow vs xs := by
  cases h with
  | tup h r => exact ⟨_, _, rfl, h, r⟩
  | v h _ _ n1 => exact absurd rfl (n1 _)
theorem mulB_ok {i j : Int} (h : mulB i j = true) : CMul i j := by
  have q := of_decide_eq_true h
  exact q
theorem szB_ok {n : Nat} (h : szB n = true) : n ≤ sizeLine := of_decide_eq_true h
/-- what an operator gives -/
theorem bin_ok {op : Operator} {x y d : D} {v u : V} {Q : VK} (hK : X.K = g.K) (E : RepEnv g er μ.ec H ρ σ) (P : HpOk g er H μ) (hx : RepQ g er μ.ec H (Ow ρ σ) v x) (hy : RepQ g er μ.ec H (Ow ρ σ) u y)
    (h : Den g W σ er H ρ μ (.ok d ρ μ) Q) (e : opBin μ.ec op x y = some d) : RunO X (binaryOp op) v u H Q := by
  unfold opBin at e
  split at e
  · cases e; cases q_int hx; cases q_int hy
    exact .of op_add ⟨_, _, rfl, rfl, den_d h E P (.int _)⟩
  · split at e
    · rename_i hz
      cases e; cases q_str hx; cases q_str hy
      exact .of op_add_str ⟨_, _, rfl, rfl, szB_ok hz, den_d h E P (.str _)⟩
    · cases e
  · split at e
    · rename_i hz
      cases e
      obtain ⟨a, vs, rfl, h1, r1⟩ := q_lst hx
      obtain ⟨b, us, rfl, h2, r2⟩ := q_lst hy
      exact .of op_cat ⟨_, _, _, _, rfl, rfl, h1, h2, by rw [r1.length, r2.length]; exact szB_ok hz, fun p hp => den_lst h E P (r1.append r2) hp⟩
    · cases e
  · split at e
    · rename_i hz
      cases e
      obtain ⟨a, vs, rfl, h1, r1⟩ := q_tup hx
      obtain ⟨b, us, rfl, h2, r2⟩ := q_tup hy
      refine .of op_catA ⟨a, b, vs, us, rfl, rfl, by rw [hK]; exact h1, by rw [hK]; exact h2, by rw [r1.length, r2.length]; exact szB_ok hz, fun z => ?_, fun _ z => ?_, fun _ _ p hp => den_tup h E P (r1.append r2) hp⟩
      · subst z
        cases r1
        refine den_d h E P ?_
        exact .tup h2 r2
      · subst z
        cases r2
        refine den_d h E P ?_
        rw [List.append_nil]
        exact .tup h1 r1
    · cases e
  · cases e; cases q_int hx; cases q_int hy
    exact .of op_sub ⟨_, _, rfl, rfl, den_d h E P (.int _)⟩
  · split at e
    · rename_i hz
      cases e; cases q_int hx; cases q_int hy
      have hz' := mulB_ok hz
      exact .of op_mul ⟨_, _, rfl, rfl, hz', den_d h E P (.int _)⟩
    · cases e
  · split at e
    · rename_i hz
      cases e
      obtain ⟨a, vs, rfl, h1, r1⟩ := q_lst hx
      cases q_int hy
      rw [Bool.and_eq_true] at hz
      obtain ⟨z1, z2⟩ := hz
      obtain ⟨z3, z4⟩ := of_decide_eq_true z1
      exact .of op_rep ⟨_, _, _, rfl, rfl, h1, z3, z4, by rw [r1.length]; exact szB_ok z2, fun p hp => den_lst h E P (repDs_rep r1 _) hp⟩
    · cases e
  · split at e
    · rename_i hz
      cases e; cases q_int hx; cases q_int hy
      have hz' := of_decide_eq_true hz
      exact .of op_fdiv ⟨_, _, rfl, rfl, hz', den_d h E P (.int _)⟩
    · cases e
  · split at e
    · rename_i hz
      cases e; cases q_int hx; cases q_int hy
      exact .of op_mod ⟨_, _, rfl, rfl, of_decide_eq_true hz, den_d h E P (.int _)⟩
    · cases e
  · split at e
    · rename_i hz
      cases e; cases q_int hx; cases q_int hy
      have hz' := of_decide_eq_true hz
      exact .of op_pow ⟨_, _, rfl, rfl, hz', den_d h E P (.int _)⟩
    · cases e
  · cases e
end
end GW

set_option maxHeartbeats 4000000
namespace GW
open PySem PySem.Spec PyProof.Rows L2

/-! ### equal data -/
mutual
def toP : D → Option PyData
  | .non => some .none
  | .bl b => some (.bool b)
  | .int i => some (.int i)
  | .str s => some (.str s)
  | .tup xs => (toPs xs).map .tuple
  | .lst _ xs => (toPs xs).map .list
  | .dic _ _ => none
  | .fn _ => none
  | .clo _ _ => none
  | .sta => none
  | .own _ => none
  | .any _ | .lab _ _ | .exc _ _ => none
def toPs : List D → Option (List PyData)
  | [] => some []
  | d :: r => match toP d with
    | some a => (toPs r).map (a :: ·)
    | none => none
end
mutual
/-- plain == of trees, True like 1 -/
def deq : D → D → Bool
  | .non, .non => true
  | .bl a, .bl b => a == b
  | .bl a, .int j => (if a then 1 else 0) == j
  | .int i, .bl b => i == (if b then 1 else 0)
  | .int i, .int j => i == j
  | .str x, .str y => x == y
  | .lst _ xs, .lst _ ys => deqs xs ys
  | .tup xs, .tup ys => deqs xs ys
  | _, _ => false
def deqs : List D → List D → Bool
  | [], [] => true
  | x :: xs, y :: ys => deq x y && deqs xs ys
  | _, _ => false
end
def shp (d : D) : Bool := match toP d with
  | some p => SeqAt.shaped p
  | none => false
theorem toP_tup {xs : List D} {p : PyData} (h : toP (.tup xs) = some p) : ∃ ps, toPs xs = some ps ∧ p = .tuple ps := by
  unfold toP at h
  cases e : toPs xs with
  | none => rw [e] at h; cases h
  | some ps => rw [e] at h; cases h; exact ⟨ps, rfl, rfl⟩
theorem toP_lst {n : Nat} {xs : List D} {p : PyData} (h : toP (.lst n xs) = some p) : ∃ ps, toPs xs = some ps ∧ p = .list ps := by
  unfold toP at h
  cases e : toPs xs with
  | none => rw [e] at h; cases h
  | some ps => rw [e] at h; cases h; exact ⟨ps, rfl, rfl⟩
theorem toPs_cons {d : D} {r : List D} {ps : List PyData} (h : toPs (d :: r) = some ps) : ∃ a b, toP d = some a ∧ toPs r = some b ∧ ps = a :: b := by
  unfold toPs at h
  cases e : toP d with
  | none => rw [e] at h; cases h
  | some a =>
    rw [e] at h
    cases e2 : toPs r with
    | none => rw [e2] at h; cases h
    | some b => rw [e2] at h; cases h; exact ⟨a, b, rfl, rfl, rfl⟩
theorem toPs_nil {ps : List PyData} (h : toPs [] = some ps) : ps = [] := by
  unfold toPs at h
  cases h
  rfl
mutual
theorem deq_ok : ∀ (x y : D) (p q : PyData), toP x = some p → toP y = some q → PyData.eqv p q = deq x y
  | .non, y, p, q, h1, h2 => by
    cases h1
    cases y <;> first | (cases h2 <;> simp [deq, PyData.eqv]; done) | (obtain ⟨_, _, rfl⟩ := toP_tup h2; simp [deq, PyData.eqv]; done) | (obtain ⟨_, _, rfl⟩ := toP_lst h2; simp [deq, PyData.eqv]; done)
  | .bl b, y, p, q, h1, h2 => by
    cases h1
    cases y <;> first | (cases h2 <;> simp [deq, PyData.eqv]; done) | (obtain ⟨_, _, rfl⟩ := toP_tup h2; simp [deq, PyData.eqv]; done) | (obtain ⟨_, _, rfl⟩ := toP_lst h2; simp [deq, PyData.eqv]; done)
  | .int b, y, p, q, h1, h2 => by
    cases h1
    cases y <;> first | (cases h2 <;> simp [deq, PyData.eqv]; done) | (obtain ⟨_, _, rfl⟩ := toP_tup h2; simp [deq, PyData.eqv]; done) | (obtain ⟨_, _, rfl⟩ := toP_lst h2; simp [deq, PyData.eqv]; done)
  | .str b, y, p, q, h1, h2 => by
    cases h1
    cases y <;> first | (cases h2 <;> simp [deq, PyData.eqv]; done) | (obtain ⟨_, _, rfl⟩ := toP_tup h2; simp [deq, PyData.eqv]; done) | (obtain ⟨_, _, rfl⟩ := toP_lst h2; simp [deq, PyData.eqv]; done)
  | .tup xs, y, p, q, h1, h2 => by
    obtain ⟨ps, e1, rfl⟩ := toP_tup h1
    cases y with
    | tup ys =>
      obtain ⟨qs, e2, rfl⟩ := toP_tup h2
      unfold deq PyData.eqv
      exact deqs_ok xs ys ps qs e1 e2
    | lst _ _ => obtain ⟨_, _, rfl⟩ := toP_lst h2; simp [deq, PyData.eqv]
    | _ => cases h2 <;> simp [deq, PyData.eqv]
  | .lst n xs, y, p, q, h1, h2 => by
    obtain ⟨ps, e1, rfl⟩ := toP_lst h1
    cases y with
    | lst _ ys =>
      obtain ⟨qs, e2, rfl⟩ := toP_lst h2
      unfold deq PyData.eqv
      exact deqs_ok xs ys ps qs e1 e2
    | tup _ => obtain ⟨_, _, rfl⟩ := toP_tup h2; simp [deq, PyData.eqv]
    | _ => cases h2 <;> simp [deq, PyData.eqv]
  | .any _, y, p, q, h1, h2 => by cases h1
  | .lab _ _, y, p, q, h1, h2 => by cases h1
  | .exc _ _, y, p, q, h1, h2 => by cases h1
theorem deqs_ok : ∀ (xs ys : List D) (ps qs : List PyData), toPs xs = some ps → toPs ys = some qs → PyData.eqvAll ps qs = deqs xs ys
  | [], [], ps, qs, h1, h2 => by cases toPs_nil h1; cases toPs_nil h2; simp [deqs, PyData.eqvAll]
  | [], y :: ys, ps, qs, h1, h2 => by obtain ⟨a, b, _, _, rfl⟩ := toPs_cons h2; cases toPs_nil h1; simp [deqs, PyData.eqvAll]
  | x :: xs, [], ps, qs, h1, h2 => by obtain ⟨a, b, _, _, rfl⟩ := toPs_cons h1; cases toPs_nil h2; simp [deqs, PyData.eqvAll]
  | x :: xs, y :: ys, ps, qs, h1, h2 => by
    obtain ⟨a, b, e1, e2, rfl⟩ := toPs_cons h1
    obtain ⟨a', b', e3, e4, rfl⟩ := toPs_cons h2
    unfold PyData.eqvAll deqs
    rw [deq_ok x y a a' e1 e3, deqs_ok xs ys b b' e2 e4]
end
section
variable {g : Gd} {X : Cx} {W : WX} {σ : St} {er : Er} {H : Hp} {ρ : Ro} {μ : Mu} {c : Nat} {ow : Addr → Prop}
mutual
theorem dp_of : ∀ (d : D) {v : V} {p : PyData}, RepD g er c H ow v d → toP d = some p → Dp g.K H v p
  | .non, v, p, h, e => by cases h; cases e; exact .non
  | .bl b, v, p, h, e => by cases h; cases e; exact .bl b
  | .int b, v, p, h, e => by cases h; cases e; exact .int b
  | .str b, v, p, h, e => by cases h; cases e; exact .str b
  | .tup xs, v, p, h, e => by
    obtain ⟨ps, e1, rfl⟩ := toP_tup e
    cases h with
    | tup h r => exact .tup h (dps_of xs r e1)
  | .lst n xs, v, p, h, e => by
    obtain ⟨ps, e1, rfl⟩ := toP_lst e
    cases h with
    | lst h _ _ r => exact .lst (.inl (.inl h)) (dps_of xs r e1)
  | .dic _ _, v, p, h, e => by cases e
  | .fn _, v, p, h, e => by cases e
  | .clo _ _, v, p, h, e => by cases e
  | .sta, v, p, h, e => by cases e
  | .own _, v, p, h, e => by cases e
theorem dps_of : ∀ (ds : List D) {vs : List V} {ps : List PyData}, RepDs g er c H ow vs ds → toPs ds = some ps → DpAll g.K H vs ps
  | [], vs, ps, h, e => by cases h; cases toPs_nil e; exact .nil
  | d :: ds, vs, ps, h, e => by
    obtain ⟨a, b, e1, e2, rfl⟩ := toPs_cons e
    cases h with
    | cons h r => exact .cons (dp_of d h e1) (dps_of ds r e2)
end
theorem dpq {v : V} {d : D} {p : PyData} (h : RepQ g er c H ow v d) (e : toP d = some p) : Dp g.K H v p := by
  cases h with
  | lst h r => obtain ⟨ps, e1, rfl⟩ := toP_lst e; exact .lst (.inl (.inl h)) (dps_of _ r e1)
  | dic h nd r => cases e
  | tup h r => obtain ⟨ps, e1, rfl⟩ := toP_tup e; exact .tup h (dps_of _ r e1)
  | v h =>
    cases h with
    | d h => exact dp_of _ h e
    | sta => cases e
    | clo => cases e
end

def opEq : D → D → Option Bool
  | .str a, .str b => some (a == b)
  | .int a, .int b => some (a == b)
  | x, y => if shp x && shp y then some (deq x y) else none
/-- flat things: for in -/
def flatD : D → Bool
  | .non => true
  | .bl _ => true
  | .int _ => true
  | .str _ => true
  | _ => false
def strIn (x y : Str) : Bool := !(Builtin.Str.occurrences y x 0 y.length 1).isEmpty
def keyD : D → Option Key
  | .int i => some (.inl i)
  | .str s => some (.inr s)
  | _ => none
def lookD (kvs : List (Key × D)) (k : Key) : Option D := (kvs.find? fun kv => decide (kv.1 = k)).map (·.2)
def opIn : D → D → Option Bool
  | .str x, .str y => some (strIn x y)
  | x, .tup ys => if flatD x && ys.all flatD then some (ys.any fun y => deq y x) else none
  | x, .lst e ys => if flatD x && ys.all flatD then some (ys.any fun y => deq y x) else if shp x && shp (.lst e ys) then some (ys.any fun y => deq y x) else none
  | x, .dic _ kvs => match keyD x with
    | some k => some (lookD kvs k).isSome
    | none => none
  | _, _ => none
def opCmp : CmpOp → D → D → Option Bool
  | .Eq, x, y => opEq x y
  | .NotEq, x, y => (opEq x y).map not
  | .Lt, .int i, .int j => some (decide (i < j))
  | .LtE, .int i, .int j => some (decide (i ≤ j))
  | .Gt, .int i, .int j => some (decide (j < i))
  | .GtE, .int i, .int j => some (decide (j ≤ i))
  | .Lt, .str i, .str j => some (decide (i.cps.toList < j.cps.toList))
  | .In, x, y => opIn x y
  | .NotIn, x, y => (opIn x y).map not
  | .Is, x, .non => match x with
    | .own _ => none
    | .any _ => none
    | .lab _ _ => none
    | .non => some true
    | _ => some false
  | .IsNot, x, .non => match x with
    | .own _ => none
    | .any _ => none
    | .lab _ _ => none
    | .non => some false
    | _ => some true
  | _, _, _ => none
section
variable {g : Gd} {X : Cx} {W : WX} {σ : St} {er : Er} {H : Hp} {ρ : Ro} {μ : Mu} {c : Nat} {ow : Addr → Prop}
theorem shp_some {d : D} (h : shp d = true) : ∃ p, toP d = some p ∧ SeqAt.shaped p = true := by
  unfold shp at h
  cases e : toP d with
  | none => rw [e] at h; cases h
  | some p => rw [e] at h; exact ⟨p, rfl, h⟩
theorem eq_ok {x y : D} {b : Bool} {v u : V} {Q : VK} (hK : X.K = g.K) (hu : X.A.units + 65 < cLine) (hx : RepQ g er c H ow v x) (hy : RepQ g er c H ow u y) (e : opEq x y = some b) (h : Q (.bl b) H) : RunO X (compareOp .Eq) v u H Q := by
  unfold opEq at e
  split at e
  · cases e; cases q_str hx; cases q_str hy
    exact .of op_eq ⟨rfl, by rw [dec_str]; exact h⟩
  · cases e; cases q_int hx; cases q_int hy
    exact .of op_eq ⟨rfl, by rw [dec_int]; exact h⟩
  · split at e
    · rename_i hz
      cases e
      rw [Bool.and_eq_true] at hz
      obtain ⟨p, e1, s1⟩ := shp_some hz.1
      obtain ⟨q, e2, s2⟩ := shp_some hz.2
      exact .of (op_eqD (by omega)) ⟨p, q, by rw [hK]; exact dpq hx e1, by rw [hK]; exact dpq hy e2, s1, s2, by rw [deq_ok _ _ p q e1 e2]; exact h⟩
    · cases e
theorem ne_ok {x y : D} {b : Bool} {v u : V} {Q : VK} (hK : X.K = g.K) (hu : X.A.units + 65 < cLine) (hx : RepQ g er c H ow v x) (hy : RepQ g er c H ow u y) (e : opEq x y = some b) (h : Q (.bl (!b)) H) : RunO X (compareOp .NotEq) v u H Q := by
  unfold opEq at e
  split at e
  · cases e; cases q_str hx; cases q_str hy
    exact .of op_ne ⟨rfl, by rw [dec_str]; exact h⟩
  · cases e; cases q_int hx; cases q_int hy
    exact .of op_ne ⟨rfl, by rw [dec_int]; exact h⟩
  · split at e
    · rename_i hz
      cases e
      rw [Bool.and_eq_true] at hz
      obtain ⟨p, e1, s1⟩ := shp_some hz.1
      obtain ⟨q, e2, s2⟩ := shp_some hz.2
      exact .of (op_neD (by omega)) ⟨p, q, by rw [hK]; exact dpq hx e1, by rw [hK]; exact dpq hy e2, s1, s2, by rw [deq_ok _ _ p q e1 e2]; exact h⟩
    · cases e
end
section
variable {g : Gd} {X : Cx} {W : WX} {σ : St} {er : Er} {H : Hp} {ρ : Ro} {μ : Mu} {c : Nat} {ow : Addr → Prop}
theorem flat_v {v : V} {d : D} (h : RepD g er c H ow v d) (f : flatD d = true) : flatV v = true := by
  cases h <;> first | rfl | cases f
theorem flat_q {v : V} {d : D} (h : RepQ g er c H ow v d) (f : flatD d = true) : flatV v = true ∧ RepD g er c H ow v d := by
  cases h with
  | v h =>
    cases h with
    | d h => exact ⟨flat_v h f, h⟩
    | sta => cases f
    | clo => cases f
  | _ => cases f
theorem flats_v : ∀ {vs : List V} {ds : List D}, RepDs g er c H ow vs ds → ds.all flatD = true → vs.all flatV = true
  | _, _, .nil, _ => rfl
  | _, _, .cons h r, f => by
    rw [List.all_cons, Bool.and_eq_true] at f ⊢
    exact ⟨flat_v h f.1, flats_v r f.2⟩
theorem eqV_deq {v u : V} {d e : D} (h : RepD g er c H ow v d) (h' : RepD g er c H ow u e) (f : flatD d = true) (f' : flatD e = true) : eqV v u = deq d e := by
  cases h <;> cases f <;> cases h' <;> cases f' <;> simp [eqV, deq]
theorem inV_deq {v : V} {d : D} (h : RepD g er c H ow v d) (f : flatD d = true) : ∀ {vs : List V} {ds : List D}, RepDs g er c H ow vs ds → ds.all flatD = true → inV v vs = ds.any fun y => deq y d
  | _, _, .nil, _ => rfl
  | _, _, .cons k r, q => by
    rw [List.all_cons, Bool.and_eq_true] at q
    have ih := inV_deq h f r q.2
    unfold inV at ih ⊢
    rw [List.any_cons, List.any_cons, eqV_deq k h q.1 f, ih]
theorem keyD_v {v : V} {d : D} {k : Key} (h : RepQ g er c H ow v d) (e : keyD d = some k) : v = kV k := by
  cases d <;> cases e
  · exact q_int h
  · exact q_str h
theorem look_rep {k : Key} : ∀ {vs : List (Key × V)} {ds : List (Key × D)}, RepKs g er c H ow vs ds → (valV vs k = none ∧ lookD ds k = none) ∨ ∃ v d, valV vs k = some v ∧ lookD ds k = some d ∧ RepD g er c H ow v d
  | _, _, .nil => .inl ⟨rfl, rfl⟩
  | _, _, @RepKs.cons _ _ _ _ _ k' v d vs ds h r => by
    by_cases e : k' = k
    · refine .inr ⟨v, d, valV_pos (p := (k', v)) e, ?_, h⟩
      unfold lookD
      rw [List.find?_cons_of_pos (by simpa using e)]
      rfl
    · rw [valV_neg (p := (k', v)) e]
      have e2 : lookD ((k', d) :: ds) k = lookD ds k := by
        unfold lookD
        rw [List.find?_cons_of_neg (by simpa using e)]
      rw [e2]
      exact look_rep r
theorem dget_rep {a : Addr} {k : Key} {vs : List (Key × V)} (h : Rd H a (.dK vs)) : DGet H a (kV k) (valV vs k) := .inl ⟨vs, k, h, rfl, rfl⟩
theorem look_some {k : Key} {vs : List (Key × V)} {ds : List (Key × D)} (r : RepKs g er c H ow vs ds) : (valV vs k).isSome = (lookD ds k).isSome := by
  rcases look_rep (k := k) r with ⟨e1, e2⟩ | ⟨v, d, e1, e2, _⟩ <;> rw [e1, e2] <;> rfl
theorem in_d {a : Addr} {k : Key} {v : V} {vs : List (Key × V)} {Q : VK} (hu : X.A.units + 65 < cLine) (h : Rd H a (.dK vs)) (e : v = kV k) (q : Q (.bl (valV vs k).isSome) H) : RunO X (compareOp .In) v (.ref a) H Q := fun pins s σ w u I rx ry => by
  obtain rfl : u = Value.ref a := ry
  subst e
  exact d_in (by omega) I (dget_rep h) rx fun s3 I3 => ⟨.bl (valV vs k).isSome, H, I3, rfl, q⟩
theorem notin_d {a : Addr} {k : Key} {v : V} {vs : List (Key × V)} {Q : VK} (hu : X.A.units + 65 < cLine) (h : Rd H a (.dK vs)) (e : v = kV k) (q : Q (.bl (!(valV vs k).isSome)) H) : RunO X (compareOp .NotIn) v (.ref a) H Q := fun pins s σ w u I rx ry => by
  obtain rfl : u = Value.ref a := ry
  subst e
  exact d_notIn (by omega) I (dget_rep h) rx fun s3 I3 => ⟨.bl (!(valV vs k).isSome), H, I3, rfl, q⟩
theorem any_deq {x : D} {p : PyData} (e : toP x = some p) : ∀ {ys : List D} {qs : List PyData}, toPs ys = some qs → (qs.any fun z => PyData.eqv z p) = ys.any fun y => deq y x
  | [], _, h => by cases toPs_nil h; rfl
  | y :: ys, _, h => by
    obtain ⟨a, b, e1, e2, rfl⟩ := toPs_cons h
    rw [List.any_cons, List.any_cons, deq_ok y x a p e1 e, any_deq e e2]
end
section
variable {g : Gd} {X : Cx} {W : WX} {σ : St} {er : Er} {H : Hp} {ρ : Ro} {μ : Mu} {c : Nat} {ow : Addr → Prop}
theorem in_ok {x y : D} {b : Bool} {v u : V} {Q : VK} (hK : X.K = g.K) (hu : X.A.units + 65 < cLine) (hx : RepQ g er c H ow v x) (hy : RepQ g er c H ow u y) (e : opIn x y = some b) (h : Q (.bl b) H) : RunO X (compareOp .In) v u H Q := by
  unfold opIn at e
  split at e
  · cases e; cases q_str hx; cases q_str hy
    exact .of op_in_str ⟨_, _, rfl, rfl, h⟩
  · split at e
    · rename_i hz
      cases e
      rw [Bool.and_eq_true] at hz
      obtain ⟨a, vs, rfl, h1, r1⟩ := q_tup hy
      obtain ⟨f1, hx'⟩ := flat_q hx hz.1
      exact .of op_in_seq ⟨a, vs, rfl, .inr (by rw [hK]; exact h1), f1, flats_v r1 hz.2, by rw [inV_deq hx' hz.1 r1 hz.2]; exact h⟩
    · cases e
  · split at e
    · rename_i hz
      cases e
      rw [Bool.and_eq_true] at hz
      obtain ⟨a, vs, rfl, h1, r1⟩ := q_lst hy
      obtain ⟨f1, hx'⟩ := flat_q hx hz.1
      exact .of op_in_seq ⟨a, vs, rfl, .inl (.inl (.inl h1)), f1, flats_v r1 hz.2, by rw [inV_deq hx' hz.1 r1 hz.2]; exact h⟩
    · split at e
      · rename_i hz
        cases e
        rw [Bool.and_eq_true] at hz
        obtain ⟨p, e1, s1⟩ := shp_some hz.1
        obtain ⟨q, e2, s2⟩ := shp_some hz.2
        obtain ⟨qs, e3, rfl⟩ := toP_lst e2
        exact .of (op_inD hu) ⟨p, qs, by rw [hK]; exact dpq hx e1, by rw [hK]; exact dpq hy e2, s1, s2, by rw [any_deq e1 e3]; exact h⟩
      · cases e
  · split at e
    · rename_i k hk
      cases e
      obtain ⟨a, vs, rfl, h1, nd, r1⟩ := q_dic hy
      exact in_d hu h1 (keyD_v hx hk) (by rw [look_some r1]; exact h)
    · cases e
  · cases e
theorem notin_ok {x y : D} {b : Bool} {v u : V} {Q : VK} (hK : X.K = g.K) (hu : X.A.units + 65 < cLine) (hx : RepQ g er c H ow v x) (hy : RepQ g er c H ow u y) (e : opIn x y = some b) (h : Q (.bl (!b)) H) : RunO X (compareOp .NotIn) v u H Q := by
  unfold opIn at e
  split at e
  · cases e; cases q_str hx; cases q_str hy
    exact .of op_notin_str ⟨_, _, rfl, rfl, h⟩
  · split at e
    · rename_i hz
      cases e
      rw [Bool.and_eq_true] at hz
      obtain ⟨a, vs, rfl, h1, r1⟩ := q_tup hy
      obtain ⟨f1, hx'⟩ := flat_q hx hz.1
      exact .of op_notIn_seq ⟨a, vs, rfl, .inr (by rw [hK]; exact h1), f1, flats_v r1 hz.2, by rw [if_pos rfl, inV_deq hx' hz.1 r1 hz.2]; exact h⟩
    · cases e
  · split at e
    · rename_i hz
      cases e
      rw [Bool.and_eq_true] at hz
      obtain ⟨a, vs, rfl, h1, r1⟩ := q_lst hy
      obtain ⟨f1, hx'⟩ := flat_q hx hz.1
      exact .of op_notIn_seq ⟨a, vs, rfl, .inl (.inl (.inl h1)), f1, flats_v r1 hz.2, by rw [if_pos rfl, inV_deq hx' hz.1 r1 hz.2]; exact h⟩
    · split at e
      · rename_i hz
        cases e
        rw [Bool.and_eq_true] at hz
        obtain ⟨p, e1, s1⟩ := shp_some hz.1
        obtain ⟨q, e2, s2⟩ := shp_some hz.2
        obtain ⟨qs, e3, rfl⟩ := toP_lst e2
        exact .of (op_notInD hu) ⟨p, qs, by rw [hK]; exact dpq hx e1, by rw [hK]; exact dpq hy e2, s1, s2, by rw [any_deq e1 e3]; exact h⟩
      · cases e
  · split at e
    · rename_i k hk
      cases e
      obtain ⟨a, vs, rfl, h1, nd, r1⟩ := q_dic hy
      exact notin_d hu h1 (keyD_v hx hk) (by rw [look_some r1]; exact h)
    · cases e
  · cases e
theorem non_dec {v : V} {x : D} (hx : RepQ g er c H ow v x) (n : ∀ i, x ≠ .own i) (n2 : ∀ i, x ≠ .any i) (n3 : ∀ i d, x ≠ .lab i d) : decide (v = .non) = (match x with | .non => true | _ => false) := by
  cases hx with
  | lst => rfl
  | dic => rfl
  | tup => rfl
  | v h =>
    cases h with
    | d h =>
      cases h with
      | any v => exact absurd rfl (n2 v)
      | lab h => exact absurd rfl (n3 _ _)
      | _ => rfl
    | sta => rfl
    | clo => rfl
theorem cmp_ok {op : CmpOp} {x y : D} {b : Bool} {v u : V} {Q : VK} (hK : X.K = g.K) (hu : X.A.units + 65 < cLine) (hx : RepQ g er c H ow v x) (hy : RepQ g er c H ow u y) (e : opCmp op x y = some b) (h : Q (.bl b) H) : RunO X (compareOp op) v u H Q := by
  unfold opCmp at e
  split at e
  · exact eq_ok hK hu hx hy e h
  · cases q : opEq x y with
    | none => rw [q] at e; cases e
    | some b' => rw [q] at e; cases e; exact ne_ok hK hu hx hy q h
  · cases e; cases q_int hx; cases q_int hy; exact .of op_lt ⟨_, _, rfl, rfl, h⟩
  · cases e; cases q_int hx; cases q_int hy; exact .of op_le ⟨_, _, rfl, rfl, h⟩
  · cases e; cases q_int hx; cases q_int hy; exact .of op_gt ⟨_, _, rfl, rfl, h⟩
  · cases e; cases q_int hx; cases q_int hy; exact .of op_ge ⟨_, _, rfl, rfl, h⟩
  · cases e; cases q_str hx; cases q_str hy; exact .of op_lt_str ⟨_, _, rfl, rfl, h⟩
  · exact in_ok hK hu hx hy e h
  · cases q : opIn x y with
    | none => rw [q] at e; cases e
    | some b' => rw [q] at e; cases e; exact notin_ok hK hu hx hy q h
  · cases q_non hy
    split at e
    · cases e
    · cases e
    · cases e
    · cases e; exact .of op_isN ⟨rfl, by rw [non_dec hx (fun _ z => nomatch z) (fun _ z => nomatch z) (fun _ _ z => nomatch z)]; exact h⟩
    · rename_i n1 m1 m2 n2
      cases e
      refine .of op_isN ⟨rfl, ?_⟩
      rw [non_dec hx n1 m1 m2]
      split
      · exact absurd rfl n2
      · exact h
  · cases q_non hy
    split at e
    · cases e
    · cases e
    · cases e
    · cases e; exact .of op_notN ⟨rfl, by rw [non_dec hx (fun _ z => nomatch z) (fun _ z => nomatch z) (fun _ _ z => nomatch z)]; exact h⟩
    · rename_i n1 m1 m2 n2
      cases e
      refine .of op_notN ⟨rfl, ?_⟩
      rw [non_dec hx n1 m1 m2]
      split
      · exact absurd rfl n2
      · exact h
  · cases e
end
end GW

set_option maxHeartbeats 1000000
namespace GW
open PySem PySem.Spec PyProof.Rows L2

/-- where a piece of text runs: n calls deep at most -/
structure Cxt (g : Gd) (bl : List Str) (n : Nat) (N : List Str) (sc : Scope) (X : Cx) : Prop where
  hK : X.K = g.K
  hm : X.mg = g.mg
  hN : X.N = N
  hsc : X.env.scope = sc
  calm : X.calm = true
  room : Room n X.A
  nd : N.Nodup
  hbl : ∀ x, x ∈ bl → g.mg x = none
theorem Cxt.hu {g : Gd} {bl : List Str} {n : Nat} {N : List Str} {sc : Scope} {X : Cx} (C : Cxt g bl n N sc X) : X.A.units + 65 < cLine := by have := C.room.un; omega

/-- a value's truth -/
def tru : D → Option Bool
  | .non => some false
  | .bl b => some b
  | .int i => some (i != 0)
  | .str s => if szB s.length then some ((s.length : Int) != 0) else none
  | .lst _ xs => some (!xs.isEmpty)
  | .tup xs => some (!xs.isEmpty)
  | .dic _ kvs => some (!kvs.isEmpty)
  | _ => none
def rsv1 (ρ : Ro) (x : D) (k : D → Option D) : Option D := match rsv ρ x with
  | some y => k y
  | none => none
def truR (x : D) (ρ : Ro) (μ : Mu) : Rs Bool := match rsv ρ x with
  | some y => match tru y with
    | some b => .ok b ρ μ
    | none => .no
  | none => .no
section
variable {g : Gd} {X : Cx} {W : WX} {σ : St} {er : Er} {H : Hp} {ρ : Ro} {μ : Mu} {c : Nat} {ow : Addr → Prop} {bl : List Str} {n : Nat} {N : List Str} {sc : Scope}
theorem RepKs.length : ∀ {vs : List (Key × V)} {ds : List (Key × D)}, RepKs g er c H ow vs ds → vs.length = ds.length
  | _, _, .nil => rfl
  | _, _, .cons _ r => congrArg (· + 1) (RepKs.length r)
theorem empty_len {α β : Type} {a : List α} {b : List β} (h : a.length = b.length) : a.isEmpty = b.isEmpty := by
  cases a <;> cases b <;> first | rfl | cases h
theorem tru_run {v : V} {d : D} {b : Bool} {Q : Bool → Hp → Prop} (hK : X.K = g.K) (h : RepQ g er c H ow v d) (e : tru d = some b) (q : Q b H) (pins : List (Addr × Obj)) (s : Shared) (u : Value) (I : Inv X pins σ H s) (r : RelV v u) :
    wpAny (model X.prog X.w) X.A (truthy u) (TP X pins σ Q) X.xe s := by
  cases h with
  | dic h nd r' =>
    cases e
    obtain rfl : u = Value.ref _ := r
    exact d_truth I h fun s' I' => ⟨H, I', by rw [empty_len r'.length]; exact q⟩
  | lst h r' =>
    cases e
    exact tru_ok pins s σ H _ u Q I r ⟨_, .inl ⟨_, .inl (.inl h), rfl⟩, by rw [empty_len r'.length]; exact q⟩
  | tup h r' =>
    cases e
    exact tru_ok pins s σ H _ u Q I r ⟨_, .inr (.inl ⟨_, by rw [hK]; exact h, rfl⟩), by rw [empty_len r'.length]; exact q⟩
  | v h n1 n2 n3 =>
    cases h with
    | d h =>
      cases h with
      | non => cases e; exact tru_ok pins s σ H _ u Q I r ⟨_, rfl, q⟩
      | bl b => cases e; exact tru_ok pins s σ H _ u Q I r ⟨_, rfl, q⟩
      | int b => cases e; exact tru_ok pins s σ H _ u Q I r ⟨_, rfl, q⟩
      | str x =>
        change (if szB x.length then some ((x.length : Int) != 0) else none) = some b at e
        split at e
        · rename_i hz
          cases e
          exact tru_ok pins s σ H _ u Q I r ⟨_, ⟨szB_ok hz, rfl⟩, q⟩
        · cases e
      | lst => exact absurd rfl (n1 _ _)
      | dic => exact absurd rfl (n2 _ _)
      | tup => exact absurd rfl (n3 _)
      | fn => cases e
      | any => cases e
      | lab => cases e
      | exc => cases e
    | sta => cases e
    | clo => cases e
theorem truR_ok {x : D} {b : Bool} {ρ' : Ro} {μ' : Mu} (h : truR x ρ μ = .ok b ρ' μ') : ρ' = ρ ∧ μ' = μ ∧ ∃ y, rsv ρ x = some y ∧ tru y = some b := by
  unfold truR at h
  cases e : rsv ρ x with
  | none => rw [e] at h; cases h
  | some y =>
    rw [e] at h
    cases e2 : tru y with
    | none => simp only [e2] at h; cases h
    | some b => simp only [e2] at h; cases h; exact ⟨rfl, rfl, y, rfl, e2⟩
theorem truR_no {x : D} {f : Str} {fs : List (Str × D)} {ρ' : Ro} {μ' : Mu} (h : truR x ρ μ = .ex f fs ρ' μ') : False := by
  unfold truR at h
  cases e : rsv ρ x with
  | none => rw [e] at h; cases h
  | some y =>
    rw [e] at h
    cases e2 : tru y with
    | none => simp only [e2] at h; cases h
    | some b => simp only [e2] at h; cases h
/-- the test of a value at hand -/
theorem truR_run {x : D} {v : V} {Q : Bool → Hp → Prop} (hK : X.K = g.K) (E : RepEnv g er μ.ec H ρ σ) (P : HpOk g er H μ) (hx : RepO g er μ.ec H ρ σ v x) (h : DenT g W σ er H ρ μ (truR x ρ μ) Q) (pins : List (Addr × Obj)) (s : Shared) (u : Value) (I : Inv X pins σ H s) (r : RelV v u) :
    wpAny (model X.prog X.w) X.A (truthy u) (TP X pins σ Q) X.xe s := by
  cases e : truR x ρ μ with
  | ok b ρ' μ' =>
    rw [e] at h
    obtain ⟨rfl, rfl, y, h1, h2⟩ := truR_ok e
    exact tru_run hK (rsv_ok E hx h1) h2 (h H er (.refl E P)) pins s u I r
  | ex f fs ρ' μ' => exact (truR_no e).elim
  | no => rw [e] at h; exact h.elim

/-! ### names, constants -/
def evVar (i : Nat) : Ro → Mu → Rs D := fun ρ μ => match ρ[i]? with
  | some (.val d) => .ok d ρ μ
  | some (.ol _ _) => .ok (.own i) ρ μ
  | some (.od _ _) => .ok (.own i) ρ μ
  | _ => .no
def evK (d : D) : Ro → Mu → Rs D := fun ρ μ => .ok d ρ μ
theorem val_not_own {v : V} {i : Nat} (h : RepV g er c ow H v (.own i)) : False := by cases h with | d h => cases h
theorem OkE.var {i : Nat} {x : Str} {pos : Pos} (hN : X.N[i]? = some x) (hv : Vis X.env.scope x) (hd : (x == ("__debug__" : Str)) = false) (hcd : (x == ("__classdict__" : Str)) = false) : OkE g X (.Name x pos) (evVar i) := by
  intro av W σ er H ρ μ Q tk E P h
  refine .of (pe_var (i := i) hN hv hd hcd) ?_
  unfold evVar at h
  cases q : ρ[i]? with
  | none => simp only [q] at h; exact h.elim
  | some sv =>
    cases sv with
    | un => simp only [q] at h; exact h.elim
    | val d =>
      simp only [q] at h
      obtain ⟨v, h1, h2⟩ := E.val i d q
      exact ⟨v, h1, den_ok h E P (.of h2)⟩
    | ol e xs =>
      simp only [q] at h
      obtain ⟨a, vs, h1, h2⟩ := E.ol i e xs q
      exact ⟨_, h1, den_ok h E P h1⟩
    | od e xs =>
      simp only [q] at h
      obtain ⟨a, vs, h1, h2⟩ := E.od i e xs q
      exact ⟨_, h1, den_ok h E P h1⟩
theorem OkE.int {i : Int} {j : Nat} {pos : Pos} : OkE g X (.Constant (.int i) j pos) (evK (.int i)) := fun av W σ er H ρ μ Q tk E P h => .of pe_int (den_d h E P (.int i))
theorem OkE.bool {i : Bool} {j : Nat} {pos : Pos} : OkE g X (.Constant (.bool i) j pos) (evK (.bl i)) := fun av W σ er H ρ μ Q tk E P h => .of pe_bl (den_d h E P (.bl i))
theorem OkE.non {j : Nat} {pos : Pos} : OkE g X (.Constant .none j pos) (evK .non) := fun av W σ er H ρ μ Q tk E P h => .of pe_non (den_d h E P .non)
theorem OkE.str {i : Str} {j : Nat} {pos : Pos} : OkE g X (.Constant (.str i) j pos) (evK (.str i)) := fun av W σ er H ρ μ Q tk E P h => .of pe_str (den_d h E P (.str i))
/-- a name of the module: what it stands for is told of every heap -/
theorem OkE.glb {x : Str} {v : V} {u : Value} {d : D} {pos : Pos} (hg : Gl X x) (hm : X.mg x = some u) (r : RelV v u) (hd : (x == ("__debug__" : Str)) = false) (hr : ∀ av er c H ow, RepD (g.at av) er c H ow v d) : OkE g X (.Name x pos) (evK d) :=
  fun av W σ er H ρ μ Q tk E P h => .of (pe_glob hg hm r hd) (den_d h E P (hr _ _ _ _ _))

/-! ### operators -/
def two (k : Nat → D → D → Option D) (x y : D) (ρ : Ro) (μ : Mu) : Rs D := match rsv ρ x, rsv ρ y with
  | some a, some b => ret (k μ.ec a b) ρ μ
  | _, _ => .no
def one (k : Nat → D → Option D) (x : D) (ρ : Ro) (μ : Mu) : Rs D := match rsv ρ x with
  | some a => ret (k μ.ec a) ρ μ
  | none => .no
def ev2 (k : Nat → D → D → Option D) (fa fb : Ro → Mu → Rs D) : Ro → Mu → Rs D := fun ρ μ => (fa ρ μ).bind fun x ρ1 μ1 => (fb ρ1 μ1).bind fun y ρ2 μ2 => two k x y ρ2 μ2
def ev1 (k : Nat → D → Option D) (fa : Ro → Mu → Rs D) : Ro → Mu → Rs D := fun ρ μ => (fa ρ μ).bind fun x ρ1 μ1 => one k x ρ1 μ1
theorem den_two {k : Nat → D → D → Option D} {x y : D} {Q : VK} (h : Den g W σ er H ρ μ (two k x y ρ μ) Q) : ∃ a b d, rsv ρ x = some a ∧ rsv ρ y = some b ∧ k μ.ec a b = some d ∧ Den g W σ er H ρ μ (.ok d ρ μ) Q := by
  unfold two at h
  cases e1 : rsv ρ x with
  | none => rw [e1] at h; exact h.elim
  | some a =>
    cases e2 : rsv ρ y with
    | none => rw [e1, e2] at h; exact h.elim
    | some b =>
      rw [e1, e2] at h
      cases e3 : k μ.ec a b with
      | none => simp only [e3] at h; exact h.elim
      | some d => simp only [e3] at h; exact ⟨a, b, d, rfl, rfl, e3, h⟩
theorem den_one {k : Nat → D → Option D} {x : D} {Q : VK} (h : Den g W σ er H ρ μ (one k x ρ μ) Q) : ∃ a d, rsv ρ x = some a ∧ k μ.ec a = some d ∧ Den g W σ er H ρ μ (.ok d ρ μ) Q := by
  unfold one at h
  cases e1 : rsv ρ x with
  | none => rw [e1] at h; exact h.elim
  | some a =>
    rw [e1] at h
    cases e3 : k μ.ec a with
    | none => simp only [e3] at h; exact h.elim
    | some d => simp only [e3] at h; exact ⟨a, d, rfl, e3, h⟩
theorem OkE.bin {op : Operator} {a b : Expr} {fa fb : Ro → Mu → Rs D} {pos : Pos} (hK : X.K = g.K) (Oa : OkE g X a fa) (Ob : OkE g X b fb) : OkE g X (.BinOp a op b pos) (ev2 (fun c x y => opBin c op x y) fa fb) := by
  intro av W σ er H ρ μ Q tk E P h
  refine .of (pe_op (r := RunO X (binaryOp op)) opR peR peR) (run_two Oa Ob tk E P h fun x y ρ2 μ2 v u H2 er2 E2 P2 hx hy h2 => ?_)
  obtain ⟨a', b', d, e1, e2, e3, h3⟩ := den_two h2
  exact bin_ok (g := g.at av) hK E2 P2 (rsv_ok E2 hx e1) (rsv_ok E2 hy e2) h3 e3
def cmpK (op : CmpOp) : Nat → D → D → Option D := fun _ x y => (opCmp op x y).map D.bl
theorem cmpK_some {op : CmpOp} {c : Nat} {x y d : D} (h : cmpK op c x y = some d) : ∃ b, opCmp op x y = some b ∧ d = .bl b := by
  unfold cmpK at h
  cases e : opCmp op x y with
  | none => rw [e] at h; cases h
  | some b => rw [e] at h; cases h; exact ⟨b, rfl, rfl⟩
theorem OkE.cmp {op : CmpOp} {a b : Expr} {fa fb : Ro → Mu → Rs D} {pos : Pos} (C : Cxt g bl n N sc X) (Oa : OkE g X a fa) (Ob : OkE g X b fb) (hm : behindInMarks op b = false) : OkE g X (.Compare a [op] [b] pos) (ev2 (cmpK op) fa fb) := by
  intro av W σ er H ρ μ Q tk E P h
  refine .of (pe_cmpR (r := RunO X (compareOp op)) opR peR peR hm) (run_two Oa Ob tk E P h fun x y ρ2 μ2 v u H2 er2 E2 P2 hx hy h2 => ?_)
  obtain ⟨a', b', d, e1, e2, e3, h3⟩ := den_two h2
  obtain ⟨r, e4, rfl⟩ := cmpK_some e3
  exact cmp_ok (g := g.at av) C.hK C.hu (rsv_ok E2 hx e1) (rsv_ok E2 hy e2) e4 (den_d h3 E2 P2 (.bl r))
/-- a bool as a result of a test -/
def toT (f : Ro → Mu → Rs D) : Ro → Mu → Rs Bool := fun ρ μ => (f ρ μ).bind truR
def toV (f : Ro → Mu → Rs Bool) : Ro → Mu → Rs D := fun ρ μ => (f ρ μ).bind fun b ρ1 μ1 => .ok (.bl b) ρ1 μ1
theorem denT_then {r : Rs D} {k : D → Ro → Mu → Rs Bool} {Q : Bool → Hp → Prop} {R : VK} (h : DenT g W σ er H ρ μ (r.bind k) Q)
    (q : ∀ d ρ1 μ1 v H1 er1, r = .ok d ρ1 μ1 → Nx g σ er H ρ μ er1 H1 ρ1 μ1 → RepO g er1 μ1.ec H1 ρ1 σ v d → DenT g W σ er1 H1 ρ1 μ1 (k d ρ1 μ1) Q → R v H1) : Den g W σ er H ρ μ r R := by
  cases r with
  | ok d ρ1 μ1 => exact fun v H1 er1 nx hv => q d ρ1 μ1 v H1 er1 rfl nx hv (DenT.nx nx h)
  | ex x fs ρ' μ' => exact h
  | no => exact h
theorem tdenT_then {r : Rs Bool} {k : Bool → Ro → Mu → Rs Bool} {Q : Bool → Hp → Prop} {R : Bool → Hp → Prop} (h : DenT g W σ er H ρ μ (r.bind k) Q)
    (q : ∀ d ρ1 μ1 H1 er1, r = .ok d ρ1 μ1 → Nx g σ er H ρ μ er1 H1 ρ1 μ1 → DenT g W σ er1 H1 ρ1 μ1 (k d ρ1 μ1) Q → R d H1) : DenT g W σ er H ρ μ r R := by
  cases r with
  | ok d ρ1 μ1 => exact fun H1 er1 nx => q d ρ1 μ1 H1 er1 rfl nx (DenT.nx nx h)
  | ex x fs ρ' μ' => exact h
  | no => exact h
theorem tden_then {r : Rs Bool} {k : Bool → Ro → Mu → Rs D} {Q : VK} {R : Bool → Hp → Prop} (h : Den g W σ er H ρ μ (r.bind k) Q)
    (q : ∀ d ρ1 μ1 H1 er1, r = .ok d ρ1 μ1 → Nx g σ er H ρ μ er1 H1 ρ1 μ1 → Den g W σ er1 H1 ρ1 μ1 (k d ρ1 μ1) Q → R d H1) : DenT g W σ er H ρ μ r R := by
  cases r with
  | ok d ρ1 μ1 => exact fun H1 er1 nx => q d ρ1 μ1 H1 er1 rfl nx (Den.nx nx h)
  | ex x fs ρ' μ' => exact h
  | no => exact h
/-- the test of an expression by its value -/
theorem OkT.val {a : Expr} {f : Ro → Mu → Rs D} (hK : X.K = g.K) (O : OkE g X a f) (he : ∀ whole, isTrue a X.env whole = (do let v ← whole; standAt a.pos; holding [v] (truthy v))) : OkT g X a (toT f) := by
  intro av W σ er H ρ μ Q tk E P h
  intro pins s I
  refine isTrue_plain ?_ (he _)
  have h' := O av W σ er H ρ μ (fun v H1 => ∀ (pins : List (Addr × Obj)) (s : Shared) (u : Value), Inv X pins σ H1 s → RelV v u → wpAny (model X.prog X.w) X.A (truthy u) (TP X pins σ Q) X.xe s) tk E P
    (denT_then h fun d ρ1 μ1 v H1 er1 _ nx hv h1 pins s u I r => truR_run (g := g.at av) hK nx.env nx.hp hv h1 pins s u I r) pins s I
  exact thn h' fun v s1 ⟨x, H1, I1, r1, q1⟩ => q1 pins s1 v I1 r1
theorem OkT.cmp {op : CmpOp} {a b : Expr} {fa fb : Ro → Mu → Rs D} {pos : Pos} (C : Cxt g bl n N sc X) (Oa : OkE g X a fa) (Ob : OkE g X b fb) (hm : behindInMarks op b = false) : OkT g X (.Compare a [op] [b] pos) (toT (ev2 (cmpK op) fa fb)) := by
  intro av W σ er H ρ μ Q tk E P h
  refine .of (pt_cmpR (r := RunO X (compareOp op)) opR peR peR hm) ?_
  have h' : Den (g.at av) W σ er H ρ μ (ev2 (cmpK op) fa fb ρ μ) (fun z H3 => ∃ k, z = .bl k ∧ Q k H3) := denT_then h fun d ρ1 μ1 v H1 er1 e nx hv h1 => by
    obtain ⟨b, rfl⟩ : ∃ b, d = .bl b := by
      unfold ev2 at e
      cases e1 : fa ρ μ with
      | ok x ρa μa =>
        rw [e1] at e
        simp only [Rs.bind_ok] at e
        cases e2 : fb ρa μa with
        | ok y ρb μb =>
          rw [e2] at e
          simp only [Rs.bind_ok] at e
          unfold two at e
          cases e3 : rsv ρb x with
          | none => rw [e3] at e; cases e
          | some a =>
            cases e4 : rsv ρb y with
            | none => rw [e3, e4] at e; cases e
            | some b' =>
              rw [e3, e4] at e
              cases e5 : cmpK op μb.ec a b' with
              | none => simp only [e5] at e; cases e
              | some d' =>
                simp only [e5] at e
                cases e
                obtain ⟨r, _, rfl⟩ := cmpK_some e5
                exact ⟨r, rfl⟩
        | ex f fs ρ' μ' => rw [e2] at e; cases e
        | no => rw [e2] at e; cases e
      | ex f fs ρ' μ' => rw [e1] at e; cases e
      | no => rw [e1] at e; cases e
    cases hv with
    | d hv => cases hv; exact ⟨b, rfl, h1 H1 er1 (.refl nx.env nx.hp)⟩
  exact run_two Oa Ob tk E P h' fun x y ρ2 μ2 v u H2 er2 E2 P2 hx hy h2 => by
    obtain ⟨a', b', d, e1, e2, e3, h3⟩ := den_two h2
    obtain ⟨r, e4, rfl⟩ := cmpK_some e3
    exact cmp_ok (g := g.at av) C.hK C.hu (rsv_ok E2 hx e1) (rsv_ok E2 hy e2) e4 (den_d h3 E2 P2 (.bl r))
def notT (f : Ro → Mu → Rs Bool) : Ro → Mu → Rs Bool := fun ρ μ => (f ρ μ).bind fun b ρ1 μ1 => .ok (!b) ρ1 μ1
theorem OkT.not {a : Expr} {f : Ro → Mu → Rs Bool} {pos : Pos} (O : OkT g X a f) : OkT g X (.UnaryOp .Not a pos) (notT f) := by
  intro av W σ er H ρ μ Q tk E P h
  exact .of (pt_not ptR) (O av W σ er H ρ μ (fun c H1 => Q (!c) H1) tk E P (tdenT_then h fun b ρ1 μ1 H1 er1 _ nx h1 => h1 H1 er1 (.refl nx.env nx.hp)))
theorem OkE.not {a : Expr} {f : Ro → Mu → Rs D} {pos : Pos} (hK : X.K = g.K) (O : OkE g X a f) : OkE g X (.UnaryOp .Not a pos) (toV (notT (toT f))) := by
  intro av W σ er H ρ μ Q tk E P h
  intro pins s I
  refine UnaryOp_ ?_
  have h0 : Den (g.at av) W σ er H ρ μ ((f ρ μ).bind fun d ρ1 μ1 => (truR d ρ1 μ1).bind fun b ρ2 μ2 => .ok (.bl (!b)) ρ2 μ2) Q := by
    unfold toV notT toT at h
    cases e : f ρ μ with
    | ok d ρ1 μ1 =>
      rw [e] at h
      simp only [Rs.bind_ok] at h ⊢
      cases e2 : truR d ρ1 μ1 with
      | ok b ρ2 μ2 => rw [e2] at h; exact h
      | ex _ _ _ _ => rw [e2] at h; exact h
      | no => rw [e2] at h; exact h
    | ex _ _ _ _ => rw [e] at h; exact h
    | no => rw [e] at h; exact h
  have h' := O av W σ er H ρ μ (fun v H1 => ∀ (pins : List (Addr × Obj)) (s : Shared) (u : Value), Inv X pins σ H1 s → RelV v u → wpAny (model X.prog X.w) X.A (truthy u) (TP X pins σ fun b H2 => Q (.bl (!b)) H2) X.xe s) tk E P
    (den_then h0 fun d ρ1 μ1 v H1 er1 _ nx hv h1 pins s u I r => truR_run (g := g.at av) hK nx.env nx.hp hv (tden_then h1 fun b ρ2 μ2 H2 er2 _ nx2 h2 => den_d h2 nx2.env nx2.hp (.bl (!b))) pins s u I r) pins s I
  refine thn h' fun v s1 ⟨x, H1, I1, r1, q1⟩ => ?_
  exact not_of (thn (q1 pins s1 v I1 r1) fun b s2 ⟨H2, I2, q2⟩ => ⟨.bl (!b), H2, I2, rfl, q2⟩)
def evIte (t : Ro → Mu → Rs Bool) (fa fb : Ro → Mu → Rs D) : Ro → Mu → Rs D := fun ρ μ => (t ρ μ).bind fun b ρ1 μ1 => if b then fa ρ1 μ1 else fb ρ1 μ1
theorem OkE.ite {c' a b : Expr} {t : Ro → Mu → Rs Bool} {fa fb : Ro → Mu → Rs D} {pos : Pos} (Oc : OkT g X c' t) (Oa : OkE g X a fa) (Ob : OkE g X b fb) : OkE g X (.IfExp c' a b pos) (evIte t fa fb) := by
  intro av W σ er H ρ μ Q tk E P h
  refine .of (pe_ifExp ptR peR peR) (Oc av W σ er H ρ μ (fun c H1 => if c = true then RunE X a σ H1 Q else RunE X b σ H1 Q) tk E P (tden_then h fun d ρ1 μ1 H1 er1 _ nx h1 => ?_))
  cases d with
  | true => exact iteT (Oa av W σ er1 H1 ρ1 μ1 Q tk nx.env nx.hp h1)
  | false => exact iteF (Ob av W σ er1 H1 ρ1 μ1 Q tk nx.env nx.hp h1)

/-! ### and, or -/
def RunW (X : Cx) (e : Expr) (σ : St) (H : Hp) (Q : Bool → Hp → Prop) : Prop := ∀ (wh : Sem Value) (pins : List (Addr × Obj)) (s : Shared), Inv X pins σ H s → wpAny (model X.prog X.w) X.A (isTrue e X.env wh) (TP X pins σ Q) X.xe s
theorem pwR {X : Cx} {e : Expr} : PW X e (RunW X e) := ⟨fun wh pins s σ H Q I h => h wh pins s I⟩
def OkW (g : Gd) (X : Cx) (e : Expr) (f : Ro → Mu → Rs Bool) : Prop := ∀ (av : Addr → Prop) (W : WX) (σ : St) (er : Er) (H : Hp) (ρ : Ro) (μ : Mu) (Q : Bool → Hp → Prop), Takes X W → RepEnv (g.at av) er μ.ec H ρ σ → HpOk (g.at av) er H μ → DenT (g.at av) W σ er H ρ μ (f ρ μ) Q → RunW X e σ H Q
theorem OkW.t {e : Expr} {f : Ro → Mu → Rs Bool} (O : OkW g X e f) : OkT g X e f := fun av W σ er H ρ μ Q tk E P h => O av W σ er H ρ μ Q tk E P h _
def boT (op : BoolOp) (f r : Ro → Mu → Rs Bool) : Ro → Mu → Rs Bool := fun ρ μ => (f ρ μ).bind fun b ρ1 μ1 => match op with
  | .And => if b then r ρ1 μ1 else .ok false ρ1 μ1
  | .Or => if b then .ok true ρ1 μ1 else r ρ1 μ1
theorem OkW.one {op : BoolOp} {a : Expr} {f : Ro → Mu → Rs Bool} {pos : Pos} (O : OkT g X a f) : OkW g X (.BoolOp op [a] pos) f := by
  intro av W σ er H ρ μ Q tk E P h wh pins s I
  cases op with
  | And => exact (pw_and1 ptR).run wh pins s σ H Q I (O av W σ er H ρ μ Q tk E P h)
  | Or => exact (pw_or1 ptR).run wh pins s σ H Q I (O av W σ er H ρ μ Q tk E P h)
theorem OkW.cons {op : BoolOp} {a b : Expr} {rest : List Expr} {f r : Ro → Mu → Rs Bool} {pos : Pos} (O : OkT g X a f) (R : OkW g X (.BoolOp op (b :: rest) pos) r) : OkW g X (.BoolOp op (a :: b :: rest) pos) (boT op f r) := by
  intro av W σ er H ρ μ Q tk E P h wh pins s I
  cases op with
  | And =>
    refine (pw_and ptR pwR).run wh pins s σ H Q I (O av W σ er H ρ μ (fun c H1 => if c = true then RunW X (.BoolOp .And (b :: rest) pos) σ H1 Q else Q false H1) tk E P (tdenT_then h fun d ρ1 μ1 H1 er1 _ nx h1 => ?_))
    cases d with
    | true => exact iteT (R av W σ er1 H1 ρ1 μ1 Q tk nx.env nx.hp h1)
    | false => exact iteF (h1 H1 er1 (.refl nx.env nx.hp))
  | Or =>
    refine (pw_or ptR pwR).run wh pins s σ H Q I (O av W σ er H ρ μ (fun c H1 => if c = true then Q true H1 else RunW X (.BoolOp .Or (b :: rest) pos) σ H1 Q) tk E P (tdenT_then h fun d ρ1 μ1 H1 er1 _ nx h1 => ?_))
    cases d with
    | true => exact iteT (h1 H1 er1 (.refl nx.env nx.hp))
    | false => exact iteF (R av W σ er1 H1 ρ1 μ1 Q tk nx.env nx.hp h1)
/-- and, or as values -/
def boV (op : BoolOp) (f r : Ro → Mu → Rs D) : Ro → Mu → Rs D := fun ρ μ => (f ρ μ).bind fun d ρ1 μ1 => (truR d ρ1 μ1).bind fun b ρ2 μ2 => match op with
  | .And => if b then r ρ2 μ2 else .ok d ρ2 μ2
  | .Or => if b then .ok d ρ2 μ2 else r ρ2 μ2
theorem truR_same {x : D} {b : Bool} {ρ' : Ro} {μ' : Mu} (h : truR x ρ μ = .ok b ρ' μ') : ρ' = ρ ∧ μ' = μ := let ⟨a, b, _⟩ := truR_ok h; ⟨a, b⟩
theorem OkE.bo1 {op : BoolOp} {a : Expr} {f : Ro → Mu → Rs D} {pos : Pos} (O : OkE g X a f) : OkE g X (.BoolOp op [a] pos) f := fun av W σ er H ρ μ Q tk E P h => .of (pe_one peR) (O av W σ er H ρ μ Q tk E P h)
theorem OkE.bo {op : BoolOp} {a b' : Expr} {rest : List Expr} {f r : Ro → Mu → Rs D} {pos : Pos} (hK : X.K = g.K) (O : OkE g X a f) (R : OkE g X (.BoolOp op (b' :: rest) pos) r) : OkE g X (.BoolOp op (a :: b' :: rest) pos) (boV op f r) := by
  intro av W σ er H ρ μ Q tk E P h pins s I
  have fin := fun (T : Bool → V → Hp → Prop) (hT : ∀ d ρ1 μ1 v H1 er1 b, Nx (g.at av) σ er H ρ μ er1 H1 ρ1 μ1 → RepO (g.at av) er1 μ1.ec H1 ρ1 σ v d →
      Den (g.at av) W σ er1 H1 ρ1 μ1 (match op with | .And => if b then r ρ1 μ1 else .ok d ρ1 μ1 | .Or => if b then .ok d ρ1 μ1 else r ρ1 μ1) Q → T b v H1) =>
    O av W σ er H ρ μ (fun v H1 => ∀ (pins : List (Addr × Obj)) (s : Shared) (u : Value), Inv X pins σ H1 s → RelV v u → wpAny (model X.prog X.w) X.A (truthy u) (TP X pins σ fun b H2 => H2 = H1 ∧ T b v H1) X.xe s) tk E P
      (den_then h fun d ρ1 μ1 v H1 er1 _ nx hv h1 pins s u I rv => by
        cases e : truR d ρ1 μ1 with
        | ok b ρ2 μ2 =>
          obtain ⟨rfl, rfl, y, e1, e2⟩ := truR_ok e
          rw [e] at h1
          exact tru_run (g := g.at av) hK (rsv_ok nx.env hv e1) e2 ⟨rfl, hT d _ _ v H1 er1 b nx hv h1⟩ pins s u I rv
        | ex _ _ _ _ => exact (truR_no e).elim
        | no => rw [e] at h1; exact h1.elim) pins s I
  cases op with
  | And =>
    refine BoolOp_and (thn (fin (fun b v H1 => if b then RunE X (.BoolOp .And (b' :: rest) pos) σ H1 Q else Q v H1) fun d ρ1 μ1 v H1 er1 b nx hv h1 => ?_) fun v s1 ⟨x, H1, I1, r1, q1⟩ => thn (q1 pins s1 v I1 r1) fun b s2 ⟨H2, I2, e2, q2⟩ => ?_)
    · cases b with
      | true => exact R av W σ er1 H1 ρ1 μ1 Q tk nx.env nx.hp h1
      | false => exact h1 v H1 er1 (.refl nx.env nx.hp) hv
    · subst e2
      cases b with
      | true => exact q2 pins s2 I2
      | false => exact ⟨x, H2, I2, r1, q2⟩
  | Or =>
    refine BoolOp_or (thn (fin (fun b v H1 => if b then Q v H1 else RunE X (.BoolOp .Or (b' :: rest) pos) σ H1 Q) fun d ρ1 μ1 v H1 er1 b nx hv h1 => ?_) fun v s1 ⟨x, H1, I1, r1, q1⟩ => thn (q1 pins s1 v I1 r1) fun b s2 ⟨H2, I2, e2, q2⟩ => ?_)
    · cases b with
      | true => exact h1 v H1 er1 (.refl nx.env nx.hp) hv
      | false => exact R av W σ er1 H1 ρ1 μ1 Q tk nx.env nx.hp h1
    · subst e2
      cases b with
      | true => exact ⟨x, H2, I2, r1, q2⟩
      | false => exact q2 pins s2 I2
end
end GW

set_option maxHeartbeats 1000000
namespace GW
open PySem PySem.Spec PyProof.Rows L2

section
variable {g : Gd} {X : Cx} {W : WX} {σ : St} {er : Er} {H : Hp} {ρ : Ro} {μ : Mu} {c : Nat} {ow ow' : Addr → Prop} {av' : Addr → Prop} {bl : List Str} {n : Nat} {N : List Str} {sc : Scope}
/-! ### the same tree, other owners -/
mutual
theorem RepD.cv (hf : ∀ a, H a ≠ none → Free g ow a → Free (g.at av') ow' a) : ∀ {v : V} {d : D}, RepD g er c H ow v d → RepD (g.at av') er c H ow' v d
  | _, _, .non => .non
  | _, _, .bl b => .bl b
  | _, _, .int i => .int i
  | _, _, .str s => .str s
  | _, _, .tup h r => .tup (g := g.at av') h (RepDs.cv hf r)
  | _, _, .lst h he hf' r => .lst h he (hf _ (rd_ne (.inl h)) hf') (RepDs.cv hf r)
  | _, _, .dic h he hf' nd r => .dic h he (hf _ (rd_ne h) hf') nd (RepKs.cv hf r)
  | _, _, .fn h hx => .fn (g := g.at av') h hx
  | _, _, .any v => .any v
  | _, _, .lab h => .lab (RepD.cv hf h)
  | _, _, .exc hx h hp hd => .exc (g := g.at av') hx h hp hd
theorem RepDs.cv (hf : ∀ a, H a ≠ none → Free g ow a → Free (g.at av') ow' a) : ∀ {vs : List V} {ds : List D}, RepDs g er c H ow vs ds → RepDs (g.at av') er c H ow' vs ds
  | _, _, .nil => .nil
  | _, _, .cons h r => .cons (RepD.cv hf h) (RepDs.cv hf r)
theorem RepKs.cv (hf : ∀ a, H a ≠ none → Free g ow a → Free (g.at av') ow' a) : ∀ {vs : List (Key × V)} {ds : List (Key × D)}, RepKs g er c H ow vs ds → RepKs (g.at av') er c H ow' vs ds
  | _, _, .nil => .nil
  | _, _, .cons h r => .cons (RepD.cv hf h) (RepKs.cv hf r)
end
theorem RepD.up {H' : Hp} (hs : ∀ a o, H a = some o → H' a = some o) : ∀ {v : V} {d : D}, RepD g er c H ow v d → RepD g er c H' ow v d := fun {v d} r =>
  RepD.rec (motive_1 := fun v d _ => RepD g er c H' ow v d) (motive_2 := fun v d _ => RepDs g er c H' ow v d) (motive_3 := fun v d _ => RepKs g er c H' ow v d)
    .non (fun b => .bl b) (fun b => .int b) (fun b => .str b) (fun h _ r => .tup (h.elim (fun h => .inl (h.elim (fun h => .inl (hs _ _ h)) fun ⟨o, h⟩ => .inr ⟨o, hs _ _ h⟩)) .inr) r) (fun h he hf _ r => .lst (hs _ _ h) he hf r)
    (fun h he hf nd _ r => .dic (h.elim (fun h => .inl (hs _ _ h)) fun ⟨o, h⟩ => .inr ⟨o, hs _ _ h⟩) he hf nd r) (fun h hx => .fn h hx) (fun v => .any v) (fun _ r => .lab r) (fun hx h hp hd => .exc hx (hs _ _ h) hp (hd.up fun _ _ q => hs _ _ q)) .nil (fun _ _ a b => .cons a b) .nil (fun _ _ a b => .cons a b) r
mutual
theorem RepV.cv : ∀ {H : Hp} {v : V} {d : D}, (∀ a, H a ≠ none → Free g ow a → Free (g.at av') ow' a) → RepV g er c ow H v d → RepV (g.at av') er c ow' H v d
  | _, _, _, hf, .d h => .d (RepD.cv hf h)
  | _, _, _, hf, .sta => .sta (g := g.at av')
  | _, _, _, hf, .clo hL hj h1 hc ha hv r => .clo (g := g.at av') hL hj h1 hc ha hv (RepVs.cv (fun a na => hf a (fun z => na (hid_none z))) r)
theorem RepVs.cv : ∀ {H : Hp} {vs : List V} {ds : List D}, (∀ a, H a ≠ none → Free g ow a → Free (g.at av') ow' a) → RepVs g er c ow H vs ds → RepVs (g.at av') er c ow' H vs ds
  | _, _, _, _, .nil => .nil
  | _, _, _, hf, .cons h r => .cons (RepV.cv hf h) (RepVs.cv hf r)
end
theorem RepO.cv {v : V} {d : D} {ρ' : Ro} (hf : ∀ a, H a ≠ none → Free g (Ow ρ σ) a → Free (g.at av') (Ow ρ' σ) a) (h : RepO g er c H ρ σ v d) : RepO (g.at av') er c H ρ' σ v d := by
  cases d with
  | own i => exact h
  | _ => exact RepV.cv hf h
/-! ### one slot of the frame anew -/
/-- what a slot's content asks -/
def RepSV (g : Gd) (er : Er) (c : Nat) (H : Hp) (ow : Addr → Prop) (v : V) : SV → Prop
  | .un => True
  | .val d => RepV g er c ow H v d
  | .ol e xs => ∃ a vs, v = .ref a ∧ H a = some (.lst vs) ∧ EraOk er c e a ∧ RepDs g er c H ow vs xs ∧ ¬ g.av a ∧ a ≠ g.sa ∧ a ≠ g.sb
  | .od e xs => ∃ a vs, v = .ref a ∧ H a = some (.dK vs) ∧ EraOk er c e a ∧ (vs.map (·.1)).Nodup ∧ RepKs g er c H ow vs xs ∧ ¬ g.av a ∧ a ≠ g.sa ∧ a ≠ g.sb
def isOwn : SV → Bool
  | .ol _ _ => true
  | .od _ _ => true
  | _ => false
theorem isOw_iff {i : Nat} : isOw ρ i ↔ ∃ sv, ρ[i]? = some sv ∧ isOwn sv = true := by
  constructor
  · rintro (⟨e, xs, h⟩ | ⟨e, xs, h⟩)
    · exact ⟨_, h, rfl⟩
    · exact ⟨_, h, rfl⟩
  · rintro ⟨sv, h, e⟩
    cases sv with
    | un => cases e
    | val d => cases e
    | ol e' xs => exact .inl ⟨e', xs, h⟩
    | od e' xs => exact .inr ⟨e', xs, h⟩
theorem get_set {α : Type} {l : List α} {i j : Nat} {x y : α} (h : (l.set i x)[j]? = some y) : (j = i ∧ y = x) ∨ (j ≠ i ∧ l[j]? = some y) := by
  rw [List.getElem?_set] at h
  by_cases e : i = j
  · rw [if_pos e] at h
    split at h
    · cases h; exact .inl ⟨e.symm, rfl⟩
    · cases h
  · rw [if_neg e] at h
    exact .inr ⟨fun z => e z.symm, h⟩
theorem set_get {α : Type} {l : List α} {i : Nat} {x : α} (h : i < l.length) : (l.set i x)[i]? = some x := by simp [h]
theorem set_get_ne {α : Type} {l : List α} {i j : Nat} {x : α} (h : j ≠ i) : (l.set i x)[j]? = l[j]? := by
  rw [List.getElem?_set, if_neg (fun z => h z.symm)]
/-- the frame's own objects when a slot is set -/
theorem ow_set {i : Nat} {sv : SV} {v : V} {a : Addr} (h : Ow (ρ.set i sv) (σ.set i (some v)) a) : (∃ j, j ≠ i ∧ isOw ρ j ∧ σ[j]? = some (some (V.ref a))) ∨ (isOwn sv = true ∧ v = .ref a) := by
  obtain ⟨j, h1, h2⟩ := h
  obtain ⟨sv', h3, h4⟩ := isOw_iff.mp h1
  rcases get_set h3 with ⟨e, rfl⟩ | ⟨e, h3⟩
  · subst e
    rcases get_set h2 with ⟨_, q⟩ | ⟨z, _⟩
    · cases q; exact .inr ⟨h4, rfl⟩
    · exact absurd rfl z
  · rcases get_set h2 with ⟨z, _⟩ | ⟨_, h2⟩
    · exact absurd z e
    · exact .inl ⟨j, e, isOw_iff.mpr ⟨_, h3, h4⟩, h2⟩
/-- set a slot: all that stood has to do without what is owned now -/
theorem RepEnv.put {i : Nat} {sv : SV} {v : V} (E : RepEnv g er c H ρ σ) (hf : ∀ a, H a ≠ none → Free g (Ow ρ σ) a → Free (g.at av') (Ow (ρ.set i sv) (σ.set i (some v))) a) (hav : ∀ a, av' a → g.av a)
    (hv : RepSV (g.at av') er c H (Ow (ρ.set i sv) (σ.set i (some v))) v sv) (hn : isOwn sv = true → ∀ j a, j ≠ i → isOw ρ j → σ[j]? = some (some (V.ref a)) → v ≠ .ref a) : RepEnv (g.at av') er c H (ρ.set i sv) (σ.set i (some v)) where
  len := by rw [List.length_set, List.length_set, E.len]
  val := fun j d h => by
    rcases get_set h with ⟨rfl, e⟩ | ⟨e, h⟩
    · have hl : j < σ.length := by
        have := (List.getElem?_eq_some_iff.mp h).1
        rw [List.length_set, E.len] at this; exact this
      subst e
      exact ⟨v, set_get hl, hv⟩
    · obtain ⟨u, h1, h2⟩ := E.val j d h
      exact ⟨u, by rw [set_get_ne e]; exact h1, RepV.cv hf h2⟩
  ol := fun j e' xs h => by
    rcases get_set h with ⟨rfl, e⟩ | ⟨e, h⟩
    · have hl : j < σ.length := by
        have := (List.getElem?_eq_some_iff.mp h).1
        rw [List.length_set, E.len] at this; exact this
      subst e
      obtain ⟨a, vs, rfl, q⟩ := hv
      exact ⟨a, vs, set_get hl, q⟩
    · obtain ⟨a, vs, h1, h2, h3, h4, h5, h6⟩ := E.ol j e' xs h
      exact ⟨a, vs, by rw [set_get_ne e]; exact h1, h2, h3, RepDs.cv hf h4, fun z => h5 (hav _ z), h6⟩
  od := fun j e' xs h => by
    rcases get_set h with ⟨rfl, e⟩ | ⟨e, h⟩
    · have hl : j < σ.length := by
        have := (List.getElem?_eq_some_iff.mp h).1
        rw [List.length_set, E.len] at this; exact this
      subst e
      obtain ⟨a, vs, rfl, q⟩ := hv
      exact ⟨a, vs, set_get hl, q⟩
    · obtain ⟨a, vs, h1, h2, h3, h4, h4', h5, h6⟩ := E.od j e' xs h
      exact ⟨a, vs, by rw [set_get_ne e]; exact h1, h2, h3, h4, RepKs.cv hf h4', fun z => h5 (hav _ z), h6⟩
  inj := fun j k a h1 h2 h3 h4 => by
    obtain ⟨s1, q1, o1⟩ := isOw_iff.mp h1
    obtain ⟨s2, q2, o2⟩ := isOw_iff.mp h2
    rcases get_set q1 with ⟨rfl, rfl⟩ | ⟨e1, r1⟩ <;> rcases get_set q2 with ⟨z2, e2⟩ | ⟨e2, r2⟩
    · exact z2.symm
    · rcases get_set h3 with ⟨_, z⟩ | ⟨z, _⟩
      · cases z
        rw [set_get_ne e2] at h4
        exact absurd rfl (hn o1 k a e2 (isOw_iff.mpr ⟨_, r2, o2⟩) h4)
      · exact absurd rfl z
    · subst z2 e2
      rcases get_set h4 with ⟨_, z⟩ | ⟨z, _⟩
      · cases z
        rw [set_get_ne e1] at h3
        exact absurd rfl (hn o2 j a e1 (isOw_iff.mpr ⟨_, r1, o1⟩) h3)
      · exact absurd rfl z
    · rw [set_get_ne e1] at h3
      rw [set_get_ne e2] at h4
      exact E.inj j k a (isOw_iff.mpr ⟨_, r1, o1⟩) (isOw_iff.mpr ⟨_, r2, o2⟩) h3 h4

structure NxS (g : Gd) (σ : St) (er : Er) (H : Hp) (ρ : Ro) (μ : Mu) (σ' : St) (er' : Er) (H' : Hp) (ρ' : Ro) (μ' : Mu) : Prop where
  x : Ext g (Ow ρ σ) er μ.ec H er' μ'.ec H'
  env : RepEnv g er' μ'.ec H' ρ' σ'
  hp : HpOk g er' H' μ'
  ow : ∀ a, Ow ρ' σ' a → Ow ρ σ a ∨ H a = none
theorem Nx.s {er' : Er} {H' : Hp} {ρ' : Ro} {μ' : Mu} (n : Nx g σ er H ρ μ er' H' ρ' μ') : NxS g σ er H ρ μ σ er' H' ρ' μ' := ⟨n.x, n.env, n.hp, n.ow⟩
theorem NxS.toNx {er' : Er} {H' : Hp} {ρ' : Ro} {μ' : Mu} (n : NxS g σ er H ρ μ σ er' H' ρ' μ') : Nx g σ er H ρ μ er' H' ρ' μ' := ⟨n.x, n.env, n.hp, n.ow⟩
theorem NxS.refl (E : RepEnv g er μ.ec H ρ σ) (P : HpOk g er H μ) : NxS g σ er H ρ μ σ er H ρ μ := (Nx.refl E P).s
theorem NxS.trans {σ1 σ2 : St} {er1 er2 : Er} {H1 H2 : Hp} {ρ1 ρ2 : Ro} {μ1 μ2 : Mu} (a : NxS g σ er H ρ μ σ1 er1 H1 ρ1 μ1) (b : NxS g σ1 er1 H1 ρ1 μ1 σ2 er2 H2 ρ2 μ2) : NxS g σ er H ρ μ σ2 er2 H2 ρ2 μ2 :=
  ⟨a.x.trans b.x a.ow, b.env, b.hp, fun x h => (b.ow x h).elim (a.ow x) fun q => by
    by_cases hx : H x = none
    · exact .inr hx
    · exact absurd q (a.x.dom x hx)⟩

/-- a slot gets a value -/
theorem free_sub {ow' : Addr → Prop} (h : ∀ a, ow' a → ow a) (a : Addr) (_ : H a ≠ none) (f : Free g ow a) : Free g ow' a := ⟨f.1, fun z => f.2.1 (h a z), f.2.2⟩
theorem ow_val {i : Nat} {sv : SV} {v : V} {a : Addr} (hs : isOwn sv = false) (h : Ow (ρ.set i sv) (σ.set i (some v)) a) : Ow ρ σ a := by
  rcases ow_set h with ⟨j, _, h1, h2⟩ | ⟨h1, _⟩
  · exact ⟨j, h1, h2⟩
  · rw [hs] at h1; cases h1
theorem nxs_val {i : Nat} {v : V} {d : D} (E : RepEnv g er μ.ec H ρ σ) (P : HpOk g er H μ) (r : RepV g er μ.ec (Ow ρ σ) H v d) : NxS g σ er H ρ μ (σ.set i (some v)) er H (ρ.set i (.val d)) μ where
  x := Ext.refl ..
  env := RepEnv.put (g := g) (av' := g.av) E (free_sub fun a => ow_val rfl) (fun _ h => h) (RepV.cv (g := g) (av' := g.av) (free_sub fun a => ow_val rfl) r) (fun z => by cases z)
  hp := P
  ow := fun a h => .inl (ow_val rfl h)
theorem set_same {i : Nat} {v : V} (h : σ[i]? = some (some v)) : σ.set i (some v) = σ := by
  obtain ⟨hi, e⟩ := List.getElem?_eq_some_iff.mp h
  rw [← e]; exact List.set_getElem_self hi
/-- a slot is told otherwise: no object of its own -/
theorem nx_slot {i : Nat} {v : V} {sv : SV} (E : RepEnv g er μ.ec H ρ σ) (P : HpOk g er H μ) (hs : isOwn sv = false) (h : σ[i]? = some (some v)) (r : RepSV g er μ.ec H (Ow (ρ.set i sv) σ) v sv) : Nx g σ er H ρ μ er H (ρ.set i sv) μ := by
  have e := set_same h
  have E' := RepEnv.put (g := g) (av' := g.av) (i := i) (sv := sv) (v := v) E (free_sub fun a => ow_val hs) (fun _ h => h) (by rw [e]; exact r) (fun z => by rw [hs] at z; cases z)
  rw [e] at E'
  exact ⟨Ext.refl .., E', P, fun a h => .inl (by rw [← e] at h; exact ow_val hs h)⟩
theorem isOw_lt {i : Nat} {sv : SV} (E : RepEnv g er c H ρ σ) (h : ρ[i]? = some sv) : i < σ.length := by
  have := (List.getElem?_eq_some_iff.mp h).1
  rw [E.len] at this; exact this
/-- an own object is told to be a value from now on -/
theorem ow_gone {i : Nat} {a : Addr} {d : D} (E : RepEnv g er c H ρ σ) (ho : isOw ρ i) (hs : σ[i]? = some (some (V.ref a))) : ¬ Ow (ρ.set i (.val d)) σ a := fun z => by
  obtain ⟨j, h1, h2⟩ := z
  obtain ⟨sv', h3, h4⟩ := isOw_iff.mp h1
  rcases get_set h3 with ⟨e, rfl⟩ | ⟨e, h3⟩
  · cases h4
  · exact e (E.inj j i a (isOw_iff.mpr ⟨_, h3, h4⟩) ho h2 hs)
theorem ow_less {i : Nat} {a : Addr} {sv : SV} (hs : isOwn sv = false) (h : Ow (ρ.set i sv) σ a) : Ow ρ σ a := by
  obtain ⟨j, h1, h2⟩ := h
  obtain ⟨sv', h3, h4⟩ := isOw_iff.mp h1
  rcases get_set h3 with ⟨e, rfl⟩ | ⟨e, h3⟩
  · rw [hs] at h4; cases h4
  · exact ⟨j, isOw_iff.mpr ⟨_, h3, h4⟩, h2⟩
theorem RepDs.less {ow' : Addr → Prop} (h : ∀ a, ow' a → ow a) {vs : List V} {ds : List D} (r : RepDs g er c H ow vs ds) : RepDs g er c H ow' vs ds := RepDs.cv (g := g) (av' := g.av) (free_sub h) r
theorem RepKs.less {ow' : Addr → Prop} (h : ∀ a, ow' a → ow a) {vs : List (Key × V)} {ds : List (Key × D)} (r : RepKs g er c H ow vs ds) : RepKs g er c H ow' vs ds := RepKs.cv (g := g) (av' := g.av) (free_sub h) r
theorem RepD.less {ow' : Addr → Prop} (h : ∀ a, ow' a → ow a) {vs : V} {ds : D} (r : RepD g er c H ow vs ds) : RepD g er c H ow' vs ds := RepD.cv (g := g) (av' := g.av) (free_sub h) r
theorem RepV.less {ow' : Addr → Prop} (h : ∀ a, ow' a → ow a) {vs : V} {ds : D} (r : RepV g er c ow H vs ds) : RepV g er c ow' H vs ds := RepV.cv (g := g) (av' := g.av) (free_sub h) r
theorem frz_ol {i e : Nat} {xs : List D} (E : RepEnv g er μ.ec H ρ σ) (P : HpOk g er H μ) (h : ρ[i]? = some (SV.ol e xs)) : Nx g σ er H ρ μ er H (ρ.set i (.val (.lst e xs))) μ ∧ ∃ v, σ[i]? = some (some v) ∧ RepD g er μ.ec H (Ow (ρ.set i (.val (.lst e xs))) σ) v (.lst e xs) := by
  obtain ⟨a, vs, h1, h2, h3, h4, h5, h6, h7⟩ := E.ol i e xs h
  have r : RepD g er μ.ec H (Ow (ρ.set i (.val (.lst e xs))) σ) (.ref a) (.lst e xs) := .lst h2 h3 ⟨h5, ow_gone E (.inl ⟨_, _, h⟩) h1, h6, h7⟩ (RepDs.less (fun a => ow_less rfl) h4)
  exact ⟨nx_slot (v := .ref a) E P rfl h1 (RepV.d r), _, h1, r⟩
theorem frz_od {i e : Nat} {xs : List (Key × D)} (E : RepEnv g er μ.ec H ρ σ) (P : HpOk g er H μ) (h : ρ[i]? = some (SV.od e xs)) : Nx g σ er H ρ μ er H (ρ.set i (.val (.dic e xs))) μ ∧ ∃ v, σ[i]? = some (some v) ∧ RepD g er μ.ec H (Ow (ρ.set i (.val (.dic e xs))) σ) v (.dic e xs) := by
  obtain ⟨a, vs, h1, h2, h3, h4, h4', h5, h6, h7⟩ := E.od i e xs h
  have r : RepD g er μ.ec H (Ow (ρ.set i (.val (.dic e xs))) σ) (.ref a) (.dic e xs) := .dic (.inl h2) h3 ⟨h5, ow_gone E (.inr ⟨_, _, h⟩) h1, h6, h7⟩ h4 (RepKs.less (fun a => ow_less rfl) h4')
  exact ⟨nx_slot (v := .ref a) E P rfl h1 (RepV.d r), _, h1, r⟩

def isDat : D → Bool
  | .sta => false
  | .clo _ _ => false
  | .own _ => false
  | _ => true
theorem dat_rep {v : V} {d : D} (h : RepV g er c ow H v d) (e : isDat d = true) : RepD g er c H ow v d := by
  cases h with
  | d h => exact h
  | sta => cases e
  | clo => cases e
/-- as data that may be put anywhere: own objects are the frame's own no more -/
def fz (d : D) (ρ : Ro) : Option (D × Ro) := match d with
  | .own i => match ρ[i]? with
    | some (.ol e xs) => some (.lst e xs, ρ.set i (.val (.lst e xs)))
    | some (.od e xs) => some (.dic e xs, ρ.set i (.val (.dic e xs)))
    | some (.val d) => if isDat d then some (d, ρ) else none
    | _ => none
  | d => if isDat d then some (d, ρ) else none
theorem fz_own (ρ : Ro) (i : Nat) : fz (.own i) ρ = match ρ[i]? with
    | some (.ol e xs) => some (.lst e xs, ρ.set i (.val (.lst e xs)))
    | some (.od e xs) => some (.dic e xs, ρ.set i (.val (.dic e xs)))
    | some (.val d) => if isDat d then some (d, ρ) else none
    | _ => none := rfl
theorem fz_ok {v : V} {d d' : D} {ρ' : Ro} (E : RepEnv g er μ.ec H ρ σ) (P : HpOk g er H μ) (h : RepO g er μ.ec H ρ σ v d) (e : fz d ρ = some (d', ρ')) : Nx g σ er H ρ μ er H ρ' μ ∧ RepD g er μ.ec H (Ow ρ' σ) v d' := by
  cases d with
  | own i =>
    have hs : σ[i]? = some (some v) := h
    rw [fz_own] at e
    cases q : ρ[i]? with
    | none => rw [q] at e; cases e
    | some sv =>
      rw [q] at e
      cases sv with
      | un => cases e
      | val d =>
        simp only at e
        split at e
        · rename_i hd
          cases e
          obtain ⟨v', h1, h2⟩ := E.val i _ q
          rw [hs] at h1; cases h1
          exact ⟨.refl E P, dat_rep h2 hd⟩
        · cases e
      | ol e' xs =>
        cases e
        obtain ⟨h1, u, h2, h3⟩ := frz_ol E P q
        rw [hs] at h2; cases h2
        exact ⟨h1, h3⟩
      | od e' xs =>
        cases e
        obtain ⟨h1, u, h2, h3⟩ := frz_od E P q
        rw [hs] at h2; cases h2
        exact ⟨h1, h3⟩
  | sta => cases e
  | clo n ws => cases e
  | _ => cases e; exact ⟨.refl E P, dat_rep h rfl⟩
def fzs : List D → Ro → Option (List D × Ro)
  | [], ρ => some ([], ρ)
  | d :: ds, ρ => match fz d ρ with
    | some (d', ρ1) => match fzs ds ρ1 with
      | some (ds', ρ2) => some (d' :: ds', ρ2)
      | none => none
    | none => none
theorem RepD.nx {er' : Er} {H' : Hp} {ρ' : Ro} {μ' : Mu} {v : V} {d : D} (n : Nx g σ er H ρ μ er' H' ρ' μ') (E : RepEnv g er μ.ec H ρ σ) (P : HpOk g er H μ) (h : RepD g er μ.ec H (Ow ρ σ) v d) : RepD g er' μ'.ec H' (Ow ρ' σ) v d := RepD.ext n.x E.owl P.sal n.ow h
theorem RepDs.nx {er' : Er} {H' : Hp} {ρ' : Ro} {μ' : Mu} {v : List V} {d : List D} (n : Nx g σ er H ρ μ er' H' ρ' μ') (E : RepEnv g er μ.ec H ρ σ) (P : HpOk g er H μ) (h : RepDs g er μ.ec H (Ow ρ σ) v d) : RepDs g er' μ'.ec H' (Ow ρ' σ) v d := RepDs.ext n.x E.owl P.sal n.ow h
theorem fzs_ok : ∀ {vs : List V} {ds ds' : List D} {ρ ρ' : Ro}, RepEnv g er μ.ec H ρ σ → HpOk g er H μ → RepOs g er μ.ec H ρ σ vs ds → fzs ds ρ = some (ds', ρ') → Nx g σ er H ρ μ er H ρ' μ ∧ RepDs g er μ.ec H (Ow ρ' σ) vs ds'
  | _, [], ds', ρ, ρ', E, P, h, e => by cases e; cases h; exact ⟨.refl E P, .nil⟩
  | _, d :: ds, ds', ρ, ρ', E, P, .cons h r, e => by
    rw [fzs] at e
    cases e1 : fz d ρ with
    | none => rw [e1] at e; cases e
    | some p =>
      obtain ⟨d1, ρ1⟩ := p
      rw [e1] at e
      simp only at e
      obtain ⟨n1, r1⟩ := fz_ok E P h e1
      cases e2 : fzs ds ρ1 with
      | none => rw [e2] at e; cases e
      | some p =>
        obtain ⟨ds1, ρ2⟩ := p
        rw [e2] at e
        cases e
        obtain ⟨n2, r2⟩ := fzs_ok n1.env n1.hp (r.nx n1 E P) e2
        exact ⟨n1.trans n2, .cons (r1.nx n2 n1.env n1.hp) r2⟩
/-- .. as data, else nothing -/
def datR (d : D) (ρ : Ro) (μ : Mu) : Rs D := match fz d ρ with
  | some (d', ρ') => .ok d' ρ' μ
  | none => .no
def datsR (d : List D) (ρ : Ro) (μ : Mu) : Rs (List D) := match fzs d ρ with
  | some (d', ρ') => .ok d' ρ' μ
  | none => .no
end
end GW

set_option maxHeartbeats 1000000
namespace GW
open PySem PySem.Spec PyProof.Rows L2

/-- what a result asks, whatever it is -/
def DenG (g : Gd) (W : WX) (σ : St) (er : Er) (H : Hp) (ρ : Ro) (μ : Mu) {α : Type} (r : Rs α) (K : α → Ro → Mu → Hp → Er → Prop) : Prop := match r with
  | .ok d ρ' μ' => ∀ H' er', Nx g σ er H ρ μ er' H' ρ' μ' → K d ρ' μ' H' er'
  | .ex x fs ρ' μ' => ∀ cls dd H' er', Nx g σ er H ρ μ er' H' ρ' μ' → ExRep g er' μ'.ec (Ow ρ' σ) H' x fs cls dd → W cls (some dd) σ H'
  | .no => False
abbrev KE (g : Gd) (σ : St) (Q : VK) : D → Ro → Mu → Hp → Er → Prop := fun d ρ' μ' H' er' => ∀ v, RepO g er' μ'.ec H' ρ' σ v d → Q v H'
abbrev KT (Q : Bool → Hp → Prop) : Bool → Ro → Mu → Hp → Er → Prop := fun b _ _ H' _ => Q b H'
abbrev KA (g : Gd) (σ : St) (Q : List V → Hp → Prop) : List D → Ro → Mu → Hp → Er → Prop := fun ds ρ' μ' H' er' => ∀ vs, RepOs g er' μ'.ec H' ρ' σ vs ds → Q vs H'
section
variable {g : Gd} {X : Cx} {W : WX} {σ : St} {er : Er} {H : Hp} {ρ : Ro} {μ : Mu} {c : Nat} {ow ow' : Addr → Prop} {av : Addr → Prop} {bl : List Str} {N : List Str} {sc : Scope} {α β : Type}
theorem Den.toG {r : Rs D} {Q : VK} (h : Den g W σ er H ρ μ r Q) : DenG g W σ er H ρ μ r (KE g σ Q) := by
  cases r with
  | ok d ρ' μ' => exact fun H' er' n v q => h v H' er' n q
  | ex => exact h
  | no => exact h
theorem DenG.e {r : Rs D} {Q : VK} (h : DenG g W σ er H ρ μ r (KE g σ Q)) : Den g W σ er H ρ μ r Q := by
  cases r with
  | ok d ρ' μ' => exact fun v H' er' n q => h H' er' n v q
  | ex => exact h
  | no => exact h
theorem DenT.toG {r : Rs Bool} {Q : Bool → Hp → Prop} (h : DenT g W σ er H ρ μ r Q) : DenG g W σ er H ρ μ r (KT Q) := by
  cases r <;> exact h
theorem DenG.t {r : Rs Bool} {Q : Bool → Hp → Prop} (h : DenG g W σ er H ρ μ r (KT Q)) : DenT g W σ er H ρ μ r Q := by
  cases r <;> exact h
theorem DenA.toG {r : Rs (List D)} {Q : List V → Hp → Prop} (h : DenA g W σ er H ρ μ r Q) : DenG g W σ er H ρ μ r (KA g σ Q) := by
  cases r with
  | ok d ρ' μ' => exact fun H' er' n v q => h v H' er' n q
  | ex => exact h
  | no => exact h
theorem DenG.a {r : Rs (List D)} {Q : List V → Hp → Prop} (h : DenG g W σ er H ρ μ r (KA g σ Q)) : DenA g W σ er H ρ μ r Q := by
  cases r with
  | ok d ρ' μ' => exact fun v H' er' n q => h H' er' n v q
  | ex => exact h
  | no => exact h
theorem DenG.nx {er1 : Er} {H1 : Hp} {ρ1 : Ro} {μ1 : Mu} {r : Rs α} {K : α → Ro → Mu → Hp → Er → Prop} (n : Nx g σ er H ρ μ er1 H1 ρ1 μ1) (h : DenG g W σ er H ρ μ r K) : DenG g W σ er1 H1 ρ1 μ1 r K := by
  cases r with
  | ok d ρ' μ' => exact fun H' er' m => h H' er' (n.trans m)
  | ex x fs ρ' μ' => exact fun cls dd H' er' m q => h cls dd H' er' (n.trans m) q
  | no => exact h
theorem DenG.bind {r : Rs α} {k : α → Ro → Mu → Rs β} {K : β → Ro → Mu → Hp → Er → Prop} (h : DenG g W σ er H ρ μ (r.bind k) K) {J : α → Ro → Mu → Hp → Er → Prop}
    (q : ∀ a ρ1 μ1 H1 er1, r = .ok a ρ1 μ1 → Nx g σ er H ρ μ er1 H1 ρ1 μ1 → DenG g W σ er1 H1 ρ1 μ1 (k a ρ1 μ1) K → J a ρ1 μ1 H1 er1) : DenG g W σ er H ρ μ r J := by
  cases r with
  | ok a ρ1 μ1 => exact fun H1 er1 n => q a ρ1 μ1 H1 er1 rfl n (DenG.nx n h)
  | ex x fs ρ' μ' => exact h
  | no => exact h
theorem DenG.ok {a : α} {K : α → Ro → Mu → Hp → Er → Prop} (h : DenG g W σ er H ρ μ (.ok a ρ μ) K) (E : RepEnv g er μ.ec H ρ σ) (P : HpOk g er H μ) : K a ρ μ H er := h H er (.refl E P)
theorem DenG.ok' {a : α} {ρ' : Ro} {μ' : Mu} {K : α → Ro → Mu → Hp → Er → Prop} {H' : Hp} {er' : Er} (h : DenG g W σ er H ρ μ (.ok a ρ' μ') K) (n : Nx g σ er H ρ μ er' H' ρ' μ') : K a ρ' μ' H' er' := h H' er' n

/-! ### argument lists -/
theorem OkA.nil : OkA g X [] (fun ρ μ => .ok [] ρ μ) := fun av W σ er H ρ μ Q tk E P h => .of pa_nil (h [] H er (.refl E P) .nil)
def aCons (f : Ro → Mu → Rs D) (r : Ro → Mu → Rs (List D)) : Ro → Mu → Rs (List D) := fun ρ μ => (f ρ μ).bind fun d ρ1 μ1 => (r ρ1 μ1).bind fun ds ρ2 μ2 => .ok (d :: ds) ρ2 μ2
theorem OkA.cons {e : Expr} {es : List Expr} {f : Ro → Mu → Rs D} {r : Ro → Mu → Rs (List D)} (O : OkE g X e f) (R : OkA g X es r) (hs : starEach (e :: es) X.env = (false, eval e X.env) :: starEach es X.env := by rfl) : OkA g X (e :: es) (aCons f r) := by
  intro av W σ er H ρ μ Q tk E P h
  refine .of (pa_cons peR paR hs) (O av W σ er H ρ μ (fun x H1 => RunA X es σ H1 fun xs H2 => Q (x :: xs) H2) tk E P (DenG.e (h.toG.bind fun d ρ1 μ1 H1 er1 _ n1 h1 v hv => ?_)))
  refine R av W σ er1 H1 ρ1 μ1 _ tk n1.env n1.hp (DenG.a (h1.bind fun ds ρ2 μ2 H2 er2 _ n2 h2 vs hvs => ?_))
  exact h2.ok n2.env n2.hp (v :: vs) (.cons (hv.nx n2 n1.env n1.hp) hvs)
theorem runA {es : List Expr} {fa : Ro → Mu → Rs (List D)} (Oa : OkA g X es fa) (tk : Takes X W) (E : RepEnv (g.at av) er μ.ec H ρ σ) (P : HpOk (g.at av) er H μ) {k : List D → Ro → Mu → Rs α} {K : α → Ro → Mu → Hp → Er → Prop} {R : List V → Hp → Prop}
    (h : DenG (g.at av) W σ er H ρ μ ((fa ρ μ).bind k) K)
    (q : ∀ ds ρ1 μ1 vs H1 er1, RepEnv (g.at av) er1 μ1.ec H1 ρ1 σ → HpOk (g.at av) er1 H1 μ1 → RepOs (g.at av) er1 μ1.ec H1 ρ1 σ vs ds → DenG (g.at av) W σ er1 H1 ρ1 μ1 (k ds ρ1 μ1) K → R vs H1) : RunA X es σ H R :=
  Oa av W σ er H ρ μ R tk E P (DenG.a (h.bind fun ds ρ1 μ1 H1 er1 _ n1 h1 vs hv => q ds ρ1 μ1 vs H1 er1 n1.env n1.hp hv h1))
theorem runE {e : Expr} {f : Ro → Mu → Rs D} (O : OkE g X e f) (tk : Takes X W) (E : RepEnv (g.at av) er μ.ec H ρ σ) (P : HpOk (g.at av) er H μ) {k : D → Ro → Mu → Rs α} {K : α → Ro → Mu → Hp → Er → Prop} {R : VK}
    (h : DenG (g.at av) W σ er H ρ μ ((f ρ μ).bind k) K)
    (q : ∀ d ρ1 μ1 v H1 er1, RepEnv (g.at av) er1 μ1.ec H1 ρ1 σ → HpOk (g.at av) er1 H1 μ1 → RepO (g.at av) er1 μ1.ec H1 ρ1 σ v d → DenG (g.at av) W σ er1 H1 ρ1 μ1 (k d ρ1 μ1) K → R v H1) : RunE X e σ H R :=
  O av W σ er H ρ μ R tk E P (DenG.e (h.bind fun d ρ1 μ1 H1 er1 _ n1 h1 v hv => q d ρ1 μ1 v H1 er1 n1.env n1.hp hv h1))
theorem runT {e : Expr} {f : Ro → Mu → Rs Bool} (O : OkT g X e f) (tk : Takes X W) (E : RepEnv (g.at av) er μ.ec H ρ σ) (P : HpOk (g.at av) er H μ) {k : Bool → Ro → Mu → Rs α} {K : α → Ro → Mu → Hp → Er → Prop} {R : Bool → Hp → Prop}
    (h : DenG (g.at av) W σ er H ρ μ ((f ρ μ).bind k) K)
    (q : ∀ d ρ1 μ1 H1 er1, RepEnv (g.at av) er1 μ1.ec H1 ρ1 σ → HpOk (g.at av) er1 H1 μ1 → DenG (g.at av) W σ er1 H1 ρ1 μ1 (k d ρ1 μ1) K → R d H1) : RunT X e σ H R :=
  O av W σ er H ρ μ R tk E P (DenG.t (h.bind fun d ρ1 μ1 H1 er1 _ n1 h1 => q d ρ1 μ1 H1 er1 n1.env n1.hp h1))
/-- .. as data -/
theorem DenG.dats {ds : List D} {vs : List V} {k : List D → Ro → Mu → Rs α} {K : α → Ro → Mu → Hp → Er → Prop} (E : RepEnv g er μ.ec H ρ σ) (P : HpOk g er H μ) (r : RepOs g er μ.ec H ρ σ vs ds) (h : DenG g W σ er H ρ μ ((datsR ds ρ μ).bind k) K) :
    ∃ ds' ρ', RepEnv g er μ.ec H ρ' σ ∧ RepDs g er μ.ec H (Ow ρ' σ) vs ds' ∧ DenG g W σ er H ρ' μ (k ds' ρ' μ) K := by
  unfold datsR at h
  cases e : fzs ds ρ with
  | none => rw [e] at h; exact h.elim
  | some p =>
    obtain ⟨ds', ρ'⟩ := p
    rw [e] at h
    obtain ⟨n, r'⟩ := fzs_ok E P r e
    exact ⟨ds', ρ', n.env, r', DenG.nx n h⟩
theorem DenG.dat {d : D} {v : V} {k : D → Ro → Mu → Rs α} {K : α → Ro → Mu → Hp → Er → Prop} (E : RepEnv g er μ.ec H ρ σ) (P : HpOk g er H μ) (r : RepO g er μ.ec H ρ σ v d) (h : DenG g W σ er H ρ μ ((datR d ρ μ).bind k) K) :
    ∃ d' ρ', RepEnv g er μ.ec H ρ' σ ∧ RepD g er μ.ec H (Ow ρ' σ) v d' ∧ DenG g W σ er H ρ' μ (k d' ρ' μ) K := by
  unfold datR at h
  cases e : fz d ρ with
  | none => rw [e] at h; exact h.elim
  | some p =>
    obtain ⟨ds', ρ'⟩ := p
    rw [e] at h
    obtain ⟨n, r'⟩ := fz_ok E P r e
    exact ⟨ds', ρ', n.env, r', DenG.nx n h⟩

/-! ### new objects -/
inductive NV where
  | nl (e : Nat) (xs : List D) | nd (e : Nat) (kvs : List (Key × D))
def NV.d : NV → D
  | .nl c xs => .lst c xs
  | .nd c kvs => .dic c kvs
def NV.e : NV → Nat
  | .nl c _ => c
  | .nd c _ => c
/-- one address more that belongs to others -/
abbrev Gd.and (g : Gd) (p : Addr) : Gd := g.at fun a => g.av a ∨ a = p
def NvAt (g : Gd) (er : Er) (c : Nat) (H : Hp) (ow : Addr → Prop) (p : Addr) : NV → Prop
  | .nl _ xs => ∃ vs, H p = some (.lst vs) ∧ RepDs g er c H ow vs xs
  | .nd _ xs => ∃ vs, H p = some (.dK vs) ∧ (vs.map (·.1)).Nodup ∧ RepKs g er c H ow vs xs
/-- a new object at p: nothing else knows it -/
structure NewAt (g : Gd) (σ : St) (er : Er) (H : Hp) (ρ : Ro) (μ : Mu) (p : Addr) (nv : NV) : Prop where
  env : RepEnv (g.and p) er μ.ec H ρ σ
  hp : HpOk (g.and p) er H μ
  era : EraOk er μ.ec nv.e p
  sa : p ≠ g.sa
  sb : p ≠ g.sb
  av : ¬ g.av p
  at_ : NvAt (g.and p) er μ.ec H (Ow ρ σ) p nv
abbrev KN (g : Gd) (σ : St) (H : Hp) (Q : VK) : NV → Ro → Mu → Hp → Er → Prop := fun nv ρ' μ' H' er' => ∀ p, NewAt g σ er' H' ρ' μ' p nv → H p = none → Q (.ref p) H'
def OkN (g : Gd) (X : Cx) (e : Expr) (f : Ro → Mu → Rs NV) : Prop := ∀ (av : Addr → Prop) (W : WX) (σ : St) (er : Er) (H : Hp) (ρ : Ro) (μ : Mu) (Q : VK), Takes X W → RepEnv (g.at av) er μ.ec H ρ σ → HpOk (g.at av) er H μ → DenG (g.at av) W σ er H ρ μ (f ρ μ) (KN (g.at av) σ H Q) → RunE X e σ H Q
theorem reps_newK {p : Addr} {o : HO} {v : List (Key × V)} {d : List (Key × D)} (E : RepEnv g er μ.ec H ρ σ) (P : HpOk g er H μ) (hp : H p = none) (r : RepKs g er μ.ec H (Ow ρ σ) v d) (hz : ∀ o' u, o ≠ .frz o' u := by intro _ _ z; cases z) : RepKs g er μ.ec (upd H p o) (Ow ρ σ) v d :=
  RepKs.ext (ext_new _ hp hz) E.owl P.sal (fun _ => .inl) r
theorem free_at {av' : Addr → Prop} (h : ∀ a, H a ≠ none → ow' a → ow a ∨ H a = none) (hv : ∀ a, H a ≠ none → av' a → g.av a) (a : Addr) (ha : H a ≠ none) (f : Free g ow a) : Free (g.at av') ow' a :=
  ⟨fun z => f.1 (hv a ha z), fun z => (h a ha z).elim f.2.1 ha, f.2.2⟩
theorem RepEnv.cv {av' : Addr → Prop} (E : RepEnv g er c H ρ σ) (hf : ∀ a, H a ≠ none → Free g (Ow ρ σ) a → Free (g.at av') (Ow ρ σ) a) (ho : ∀ a, Ow ρ σ a → ¬ g.av a → ¬ av' a) : RepEnv (g.at av') er c H ρ σ where
  len := E.len
  val := fun i d h => let ⟨v, h1, h2⟩ := E.val i d h; ⟨v, h1, RepV.cv hf h2⟩
  ol := fun i e xs h => let ⟨a, vs, h1, h2, h3, h4, h5, h6⟩ := E.ol i e xs h; ⟨a, vs, h1, h2, h3, RepDs.cv hf h4, ho a ⟨i, .inl ⟨_, _, h⟩, h1⟩ h5, h6⟩
  od := fun i e xs h => let ⟨a, vs, h1, h2, h3, h4, h4', h5, h6⟩ := E.od i e xs h; ⟨a, vs, h1, h2, h3, h4, RepKs.cv hf h4', ho a ⟨i, .inr ⟨_, _, h⟩, h1⟩ h5, h6⟩
  inj := E.inj
theorem HpOk.cv {av' : Addr → Prop} (P : HpOk g er H μ) (h : ∀ a, av' a → H a ≠ none ∧ a ≠ g.sa ∧ a ≠ g.sb) : HpOk (g.at av') er H μ :=
  ⟨P.sa, P.sb, P.ne, P.mu, P.er, P.tabs, fun a z => (h a z).1, fun z => (h _ z).2.1 rfl, fun z => (h _ z).2.2 rfl⟩
theorem HpOk.avs {a : Addr} (P : HpOk g er H μ) (h : g.av a) : H a ≠ none ∧ a ≠ g.sa ∧ a ≠ g.sb := ⟨P.av a h, fun z => P.nav.1 (z ▸ h), fun z => P.nav.2 (z ▸ h)⟩
/-- the frame beside an object that was not there -/
theorem env_and {p : Addr} {o : HO} (E : RepEnv g er μ.ec H ρ σ) (P : HpOk g er H μ) (hp : H p = none) (hz : ∀ o' u, o ≠ .frz o' u := by intro _ _ z; cases z) : RepEnv (g.and p) er μ.ec (upd H p o) ρ σ := by
  have E1 : RepEnv (g.and p) er μ.ec H ρ σ := E.cv (fun a ha f => ⟨fun z => z.elim f.1 fun e => ha (e ▸ hp), f.2⟩) fun a ho h z => z.elim h fun e => (E.owl a ho).elim (fun ⟨_, q⟩ => by rw [e, hp] at q; cases q) fun ⟨_, q⟩ => by rw [e, hp] at q; cases q
  exact E1.sm (g := g.and p) P.sal (ext_new _ hp hz) fun a o' h _ => by rw [upd_ne (ne_of_none h hp)]; exact h
theorem hp_and {p : Addr} {o : HO} (E : RepEnv g er μ.ec H ρ σ) (P : HpOk g er H μ) (hp : H p = none) (hz : ∀ o' u, o ≠ .frz o' u := by intro _ _ z; cases z) : HpOk (g.and p) er (upd H p o) μ :=
  (nx_new (o := o) E P hp hz).hp.cv fun a z => by
    rcases z with z | rfl
    · exact (nx_new (o := o) E P hp hz).hp.avs z
    · exact ⟨(by rw [upd_same]; exact fun z => nomatch z), (free_new E P hp).2.2⟩
theorem new_lst {p : Addr} {vs : List V} {ds : List D} (E : RepEnv g er μ.ec H ρ σ) (P : HpOk g er H μ) (hp : H p = none) (r : RepDs g er μ.ec H (Ow ρ σ) vs ds) : NewAt g σ er (upd H p (.lst vs)) ρ μ p (.nl μ.ec ds) :=
  ⟨env_and E P hp, hp_and E P hp, era_new P hp, (free_new E P hp).2.2.1, (free_new E P hp).2.2.2, (fun z => P.av p z hp), ⟨vs, upd_same,
    RepDs.ext (g := g.and p) (ext_new _ hp) E.owl P.sal (fun _ => .inl) (RepDs.cv (fun a ha f => ⟨fun z => z.elim f.1 fun e => ha (e ▸ hp), f.2⟩) r)⟩⟩
theorem new_dic {p : Addr} {vs : List (Key × V)} {ds : List (Key × D)} (E : RepEnv g er μ.ec H ρ σ) (P : HpOk g er H μ) (hp : H p = none) (nd : (vs.map (·.1)).Nodup) (r : RepKs g er μ.ec H (Ow ρ σ) vs ds) : NewAt g σ er (upd H p (.dK vs)) ρ μ p (.nd μ.ec ds) :=
  ⟨env_and E P hp, hp_and E P hp, era_new P hp, (free_new E P hp).2.2.1, (free_new E P hp).2.2.2, (fun z => P.av p z hp), ⟨vs, upd_same, nd,
    RepKs.ext (g := g.and p) (ext_new _ hp) E.owl P.sal (fun _ => .inl) (RepKs.cv (fun a ha f => ⟨fun z => z.elim f.1 fun e => ha (e ▸ hp), f.2⟩) r)⟩⟩
/-- the new object as a value -/
theorem NewAt.rep {p : Addr} {nv : NV} (n : NewAt g σ er H ρ μ p nv) : RepD g er μ.ec H (Ow ρ σ) (.ref p) nv.d := by
  have fr : Free g (Ow ρ σ) p := ⟨n.av, fun ⟨i, hi, hs⟩ => by
    rcases hi with ⟨e, xs, q⟩ | ⟨e, xs, q⟩
    · obtain ⟨a, vs, h1, _, _, _, h5, _⟩ := n.env.ol i e xs q
      rw [hs] at h1; cases h1
      exact h5 (.inr rfl)
    · obtain ⟨a, vs, h1, _, _, _, _, h5, _⟩ := n.env.od i e xs q
      rw [hs] at h1; cases h1
      exact h5 (.inr rfl), n.sa, n.sb⟩
  have cv : ∀ a, H a ≠ none → Free (g.and p) (Ow ρ σ) a → Free ((g.and p).at g.av) (Ow ρ σ) a := fun a _ f => ⟨fun z => f.1 (.inl z), f.2⟩
  cases nv with
  | nl e xs =>
    obtain ⟨vs, h1, h2⟩ := n.at_
    exact .lst h1 n.era fr (RepDs.cv (g := g.and p) (av' := g.av) cv h2)
  | nd e xs =>
    obtain ⟨vs, h1, h2, h3⟩ := n.at_
    exact .dic (.inl h1) n.era fr h2 (RepKs.cv (g := g.and p) (av' := g.av) cv h3)
def evN (f : Ro → Mu → Rs NV) : Ro → Mu → Rs D := fun ρ μ => (f ρ μ).bind fun nv ρ1 μ1 => .ok nv.d ρ1 μ1
theorem OkN.e {e : Expr} {f : Ro → Mu → Rs NV} (O : OkN g X e f) : OkE g X e (evN f) := by
  intro av W σ er H ρ μ Q tk E P h
  exact O av W σ er H ρ μ Q tk E P (h.toG.bind fun nv ρ1 μ1 H1 er1 _ n h1 p nw _ => h1.ok n.env n.hp _ (.d nw.rep))
theorem upd_none {p : Addr} {o : HO} (hp : H p = none) (a : Addr) (h : H a ≠ none) : upd H p o a ≠ none := by
  rw [upd_ne (fun z => h (by rw [z]; exact hp))]; exact h
def dispL (fa : Ro → Mu → Rs (List D)) : Ro → Mu → Rs NV := fun ρ μ => (fa ρ μ).bind fun ds ρ1 μ1 => (datsR ds ρ1 μ1).bind fun xs ρ2 μ2 => if szB xs.length then   .ok (.nl μ2.ec xs) ρ2 μ2 else .no
theorem none_of {er' : Er} {H' : Hp} {ρ' : Ro} {μ' : Mu} (n : Nx g σ er H ρ μ er' H' ρ' μ') {p : Addr} (h : H' p = none) : H p = none := by
  by_cases e : H p = none
  · exact e
  · exact absurd h (n.x.dom p e)
/-- behind a new list's making -/
theorem DenG.nl {xs : List D} {vs : List V} {Q : VK} {H0 : Hp} {p : Addr} (h : DenG g W σ er H ρ μ (.ok (.nl μ.ec xs) ρ μ) (KN g σ H0 Q)) (E : RepEnv g er μ.ec H ρ σ) (P : HpOk g er H μ) (hp : H p = none) (h0 : H p = none → H0 p = none) (r : RepDs g er μ.ec H (Ow ρ σ) vs xs) : Q (.ref p) (upd H p (.lst vs)) :=
  h.ok' (nx_new E P hp) p (new_lst E P hp r) (h0 hp)
theorem DenG.nd {xs : List (Key × D)} {vs : List (Key × V)} {Q : VK} {H0 : Hp} {p : Addr} (h : DenG g W σ er H ρ μ (.ok (.nd μ.ec xs) ρ μ) (KN g σ H0 Q)) (E : RepEnv g er μ.ec H ρ σ) (P : HpOk g er H μ) (hp : H p = none) (h0 : H p = none → H0 p = none) (nd : (vs.map (·.1)).Nodup) (r : RepKs g er μ.ec H (Ow ρ σ) vs xs) : Q (.ref p) (upd H p (.dK vs)) :=
  h.ok' (nx_new E P hp) p (new_dic E P hp nd r) (h0 hp)
theorem OkN.lst {es : List Expr} {fa : Ro → Mu → Rs (List D)} {pos : Pos} (O : OkA g X es fa) : OkN g X (.List es pos) (dispL fa) := by
  intro av W σ er H ρ μ Q tk E P h
  refine .of (pe_lst paR) (O av W σ er H ρ μ _ tk E P (DenG.a (h.bind fun ds ρ1 μ1 H1 er1 _ n1 h1 vs r1 => ?_)))
  obtain ⟨xs, ρ2, E2, r2, h2⟩ := h1.dats n1.env n1.hp r1
  split at h2
  · rename_i hz
    exact ⟨by rw [r2.length]; exact szB_ok hz, fun p hp => h2.nl E2 n1.hp hp (none_of n1) r2⟩
  · exact h2.elim
def dispT (fa : Ro → Mu → Rs (List D)) : Ro → Mu → Rs D := fun ρ μ => (fa ρ μ).bind fun ds ρ1 μ1 => (datsR ds ρ1 μ1).bind fun xs ρ2 μ2 => if szB xs.length then .ok (.tup xs) ρ2 μ2 else .no
theorem OkE.tup {es : List Expr} {x1 : Nat} {fa : Ro → Mu → Rs (List D)} {pos : Pos} (O : OkA g X es fa) : OkE g X (.Tuple es x1 pos) (dispT fa) := by
  intro av W σ er H ρ μ Q tk E P h
  refine .of (pe_tup paR) (runA O tk E P h.toG fun ds ρ1 μ1 vs H1 er1 E1 P1 r1 h1 => ?_)
  obtain ⟨xs, ρ2, E2, r2, h2⟩ := h1.dats E1 P1 r1
  split at h2
  · rename_i hz
    exact ⟨by rw [r2.length]; exact szB_ok hz, fun p hp => den_tup h2.e E2 P1 r2 hp⟩
  · exact h2.elim
end
end GW

set_option maxHeartbeats 1000000
namespace GW
open PySem PySem.Spec PyProof.Rows L2

/-! ### lists in order -/
def insL {α : Type} (lt : α → α → Bool) (x : α) : List α → List α
  | [] => [x]
  | y :: r => if lt y x then y :: insL lt x r else x :: y :: r
def srtL {α : Type} (lt : α → α → Bool) : List α → List α
  | [] => []
  | x :: r => insL lt x (srtL lt r)
theorem insL_perm {α : Type} {lt : α → α → Bool} (x : α) : ∀ l : List α, (insL lt x l).Perm (x :: l)
  | [] => .refl _
  | y :: r => by
    unfold insL
    split
    · exact ((insL_perm x r).cons y).trans (.swap ..)
    · exact .refl _
theorem srtL_perm {α : Type} {lt : α → α → Bool} : ∀ l : List α, (srtL lt l).Perm l
  | [] => .refl _
  | x :: r => (insL_perm x _).trans ((srtL_perm r).cons x)
theorem insL_sorted {α : Type} {lt : α → α → Bool} (ht : ∀ a b c, lt b a = false → lt c b = false → lt c a = false) (ha : ∀ a b, lt a b = true → lt b a = false) (x : α) : ∀ l : List α, l.Pairwise (fun a b => lt b a = false) → (insL lt x l).Pairwise fun a b => lt b a = false
  | [], _ => by unfold insL; exact List.pairwise_singleton _ _
  | y :: r, h => by
    rw [List.pairwise_cons] at h
    unfold insL
    split
    · rename_i q
      rw [List.pairwise_cons]
      refine ⟨fun z hz => ?_, insL_sorted ht ha x r h.2⟩
      rcases List.mem_cons.mp ((insL_perm x r).mem_iff.mp hz) with rfl | hz
      · exact ha _ _ q
      · exact h.1 z hz
    · rename_i q
      have q : lt y x = false := by simpa using q
      rw [List.pairwise_cons]
      refine ⟨fun z hz => ?_, List.pairwise_cons.mpr h⟩
      rcases List.mem_cons.mp hz with rfl | hz
      · exact q
      · exact ht _ _ _ q (h.1 z hz)
theorem srtL_sorted {α : Type} {lt : α → α → Bool} (ht : ∀ a b c, lt b a = false → lt c b = false → lt c a = false) (ha : ∀ a b, lt a b = true → lt b a = false) : ∀ l : List α, (srtL lt l).Pairwise fun a b => lt b a = false
  | [] => .nil
  | x :: r => insL_sorted ht ha x _ (srtL_sorted ht ha r)
theorem sorted_one {α : Type} {lt : α → α → Bool} (he : ∀ a b, lt a b = false → lt b a = false → a = b) : ∀ {l m : List α}, l.Perm m → l.Pairwise (fun a b => lt b a = false) → m.Pairwise (fun a b => lt b a = false) → l = m
  | [], m, p, _, _ => (List.nil_perm.mp p).symm
  | x :: r, [], p, _, _ => by have := p.length_eq; cases this
  | x :: r, y :: t, p, h1, h2 => by
    rw [List.pairwise_cons] at h1 h2
    have e : x = y := by
      have hx : x ∈ y :: t := p.mem_iff.mp (List.mem_cons_self ..)
      have hy : y ∈ x :: r := p.mem_iff.mpr (List.mem_cons_self ..)
      rcases List.mem_cons.mp hx with e | hx
      · exact e
      · rcases List.mem_cons.mp hy with e | hy
        · exact e.symm
        · exact he _ _ (h2.1 x hx) (h1.1 y hy)
    subst e
    rw [sorted_one he (p.cons_inv) h1.2 h2.2]
def ltI (a b : Int) : Bool := decide (a < b)
def ltS (a b : Str) : Bool := decide (a.cps.toList < b.cps.toList)
theorem ltI_one {l m : List Int} (p : l.Perm m) (h : l.Pairwise (· ≤ ·)) : l = srtL ltI m := by
  refine sorted_one (lt := ltI) (fun a b h1 h2 => ?_) (p.trans (srtL_perm m).symm) (h.imp fun {a b} q => ?_) (srtL_sorted (fun a b c h1 h2 => ?_) (fun a b h => ?_) m)
  · have := of_decide_eq_false h1; have := of_decide_eq_false h2; omega
  · exact decide_eq_false (by omega)
  · have := of_decide_eq_false h1; have := of_decide_eq_false h2; exact decide_eq_false (by omega)
  · have := of_decide_eq_true h; exact decide_eq_false (by omega)
theorem ltS_asymm {a b : Str} (h : ltS a b = true) : ltS b a = false := by
  have h := of_decide_eq_true h
  exact decide_eq_false (fun z => absurd (List.lt_trans h z) (List.lt_irrefl _))
theorem ltS_trans {a b c : Str} (h1 : ltS b a = false) (h2 : ltS c b = false) : ltS c a = false := by
  have h1 := of_decide_eq_false h1
  have h2 := of_decide_eq_false h2
  exact decide_eq_false (List.not_lt.mpr (List.le_trans (List.not_lt.mp h1) (List.not_lt.mp h2)))
theorem ltS_eq {a b : Str} (h1 : ltS a b = false) (h2 : ltS b a = false) : a = b := by
  have h1 := List.not_lt.mp (of_decide_eq_false h1)
  have h2 := List.not_lt.mp (of_decide_eq_false h2)
  have e := List.le_antisymm h2 h1
  cases a; cases b
  congr 1
  exact Array.ext' e
theorem risingS_pair : ∀ (p : Str) (l : List Str), risingS p l = true → (p :: l).Pairwise fun a b => ltS b a = false
  | p, [], _ => List.pairwise_singleton _ _
  | p, x :: r, h => by
    unfold risingS at h
    rw [Bool.and_eq_true] at h
    have ih := risingS_pair x r h.2
    have h0 : ltS x p = false := by
      have := h.1
      rw [ltCps_eq] at this
      unfold ltS; simpa using this
    rw [List.pairwise_cons]
    refine ⟨fun z hz => ?_, ih⟩
    rcases List.mem_cons.mp hz with rfl | hz
    · exact h0
    · exact ltS_trans h0 ((List.pairwise_cons.mp ih).1 z hz)
theorem sortedS_pair : ∀ l : List Str, sortedS l = true → l.Pairwise fun a b => ltS b a = false
  | [], _ => .nil
  | x :: r, h => risingS_pair x r h
theorem ltS_one {l m : List Str} (p : l.Perm m) (h : sortedS l = true) : l = srtL ltS m :=
  sorted_one (fun a b => ltS_eq) (p.trans (srtL_perm m).symm) (sortedS_pair l h) (srtL_sorted (lt := ltS) (fun a b c => ltS_trans) (fun a b => ltS_asymm) m)

/-! ### values at hand -/
inductive RepQs (g : Gd) (er : Er) (c : Nat) (H : Hp) (ow : Addr → Prop) : List V → List D → Prop
  | nil : RepQs g er c H ow [] []
  | cons {v : V} {d : D} {vs : List V} {ds : List D} (h : RepQ g er c H ow v d) (r : RepQs g er c H ow vs ds) : RepQs g er c H ow (v :: vs) (d :: ds)
def rsvs (ρ : Ro) : List D → Option (List D)
  | [] => some []
  | d :: ds => match rsv ρ d, rsvs ρ ds with
    | some a, some b => some (a :: b)
    | _, _ => none
section
variable {g : Gd} {X : Cx} {W : WX} {σ : St} {er : Er} {H : Hp} {ρ : Ro} {μ : Mu} {c : Nat} {ow ow' : Addr → Prop} {av : Addr → Prop} {bl : List Str} {n : Nat} {N : List Str} {sc : Scope} {α β : Type}
theorem rsvs_ok : ∀ {vs : List V} {ds ds' : List D}, RepEnv g er c H ρ σ → RepOs g er c H ρ σ vs ds → rsvs ρ ds = some ds' → RepQs g er c H (Ow ρ σ) vs ds'
  | _, [], ds', E, h, e => by cases e; cases h; exact .nil
  | _, d :: ds, ds', E, .cons h r, e => by
    unfold rsvs at e
    cases e1 : rsv ρ d with
    | none => rw [e1] at e; cases e
    | some a =>
      cases e2 : rsvs ρ ds with
      | none => rw [e1, e2] at e; cases e
      | some b =>
        rw [e1, e2] at e
        cases e
        exact .cons (rsv_ok E h e1) (rsvs_ok E r e2)

/-! ### calls of values that are known -/
def RunC (X : Cx) (f : Value) (xs : List V) (H : Hp) (Q : VK) : Prop := ∀ (pins : List (Addr × Obj)) (s : Shared) (σ : St) (us : List Value), Inv X pins σ H s → Vals xs us → wpAny (model X.prog X.w) X.A (call f us) (EP X pins σ Q) X.xe s
theorem callR {f : Value} : CallR X f (RunC X f) := fun pins s σ H xs us Q I r h => h pins s σ us I r
theorem RunC.of {f : Value} {r : List V → Hp → VK → Prop} {xs : List V} {Q : VK} (h : CallR X f r) (q : r xs H Q) : RunC X f xs H Q := fun pins s σ us I rs => h pins s σ H xs us Q I rs q
theorem Cxt.gl {x : Str} (C : Cxt g bl n N sc X) (h : sc.names.lookup x = some .globalImplicit) : Gl X x := by
  unfold Gl Env.kindOf; rw [C.hsc]; exact h
theorem Cxt.non {x : Str} (C : Cxt g bl n N sc X) (h : x ∈ bl) : X.mg x = none := by rw [C.hm]; exact C.hbl x h
/-- what a builtin gives, by data -/
def BiE (X : Cx) (f : Value) (k : Nat → List D → Option D) : Prop := ∀ (g : Gd) (W : WX) (σ : St) (er : Er) (H : Hp) (ρ : Ro) (μ : Mu) (vs : List V) (ds : List D) (d : D) (Q : VK), X.K = g.K → RepEnv g er μ.ec H ρ σ → HpOk g er H μ → RepQs g er μ.ec H (Ow ρ σ) vs ds →
  k μ.ec ds = some d → Den g W σ er H ρ μ (.ok d ρ μ) Q → RunC X f vs H Q
def BiN (X : Cx) (f : Value) (k : Nat → List D → Option NV) : Prop := ∀ (g : Gd) (W : WX) (σ : St) (er : Er) (H H0 : Hp) (ρ : Ro) (μ : Mu) (vs : List V) (ds : List D) (d : NV) (Q : VK), X.K = g.K → RepEnv g er μ.ec H ρ σ → HpOk g er H μ → RepQs g er μ.ec H (Ow ρ σ) vs ds →
  (∀ p, H p = none → H0 p = none) → k μ.ec ds = some d → DenG g W σ er H ρ μ (.ok d ρ μ) (KN g σ H0 Q) → RunC X f vs H Q
def evC (k : Nat → List D → Option D) (fa : Ro → Mu → Rs (List D)) : Ro → Mu → Rs D := fun ρ μ => (fa ρ μ).bind fun ds ρ1 μ1 => match rsvs ρ1 ds with
  | some xs => ret (k μ1.ec xs) ρ1 μ1
  | none => .no
def retN (o : Option NV) (ρ : Ro) (μ : Mu) : Rs NV := match o with
  | some d => .ok d ρ μ
  | none => .no
def evCN (k : Nat → List D → Option NV) (fa : Ro → Mu → Rs (List D)) : Ro → Mu → Rs NV := fun ρ μ => (fa ρ μ).bind fun ds ρ1 μ1 => match rsvs ρ1 ds with
  | some xs => retN (k μ1.ec xs) ρ1 μ1
  | none => .no
theorem OkE.callR {f : Value} {e : Expr} {es : List Expr} {p pos : Pos} {x : Str} {k : Nat → List D → Option D} {fa : Ro → Mu → Rs (List D)} (hK : X.K = g.K) (hc : BiE X f k) (hp : ∀ {r : List V → Hp → VK → Prop} {t : TA}, CallR X f r → PA X (e :: es) t → PE X (.Call (.Name x p) (e :: es) [] pos) (tCB r t))
    (O : OkA g X (e :: es) fa) : OkE g X (.Call (.Name x p) (e :: es) [] pos) (evC k fa) := by
  intro av W σ er H ρ μ Q tk E P h
  refine .of (hp GW.callR paR) (runA O tk E P h.toG fun ds ρ1 μ1 vs H1 er1 E1 P1 r1 h1 => ?_)
  cases e1 : rsvs ρ1 ds with
  | none => rw [e1] at h1; exact h1.elim
  | some xs =>
    rw [e1] at h1
    cases e2 : k μ1.ec xs with
    | none => simp only [e2] at h1; exact h1.elim
    | some d =>
      simp only [e2] at h1
      exact hc (g.at av) W σ er1 H1 ρ1 μ1 vs xs d Q hK E1 P1 (rsvs_ok E1 r1 e1) e2 h1.e
theorem OkN.callR {f : Value} {e : Expr} {es : List Expr} {p pos : Pos} {x : Str} {k : Nat → List D → Option NV} {fa : Ro → Mu → Rs (List D)} (hK : X.K = g.K) (hc : BiN X f k) (hp : ∀ {r : List V → Hp → VK → Prop} {t : TA}, CallR X f r → PA X (e :: es) t → PE X (.Call (.Name x p) (e :: es) [] pos) (tCB r t))
    (O : OkA g X (e :: es) fa) : OkN g X (.Call (.Name x p) (e :: es) [] pos) (evCN k fa) := by
  intro av W σ er H ρ μ Q tk E P h
  refine .of (hp GW.callR paR) (O av W σ er H ρ μ _ tk E P (DenG.a (h.bind fun ds ρ1 μ1 H1 er1 _ n1 h1 vs r1 => ?_)))
  cases e1 : rsvs ρ1 ds with
  | none => rw [e1] at h1; exact h1.elim
  | some xs =>
    rw [e1] at h1
    cases e2 : k μ1.ec xs with
    | none => simp only [e2] at h1; exact h1.elim
    | some d =>
      simp only [e2] at h1
      exact hc (g.at av) W σ er1 H1 H ρ1 μ1 vs xs d Q hK n1.env n1.hp (rsvs_ok n1.env r1 e1) (fun p hp => none_of n1 hp) e2 h1
/-- a built-in function by its name -/
theorem OkE.bi {id : String} {e : Expr} {es : List Expr} {p pos : Pos} {x : Str} {k : Nat → List D → Option D} {fa : Ro → Mu → Rs (List D)} (C : Cxt g bl n N sc X) (hc : BiE X (.builtin id) k) (hg : sc.names.lookup x = some .globalImplicit) (hb : x ∈ bl) (hv : bootBuiltins x = some (.builtin id)) (hn : x ≠ "__name__") (hdb : (x == ("__debug__" : Str)) = false)
    (O : OkA g X (e :: es) fa) (he : starEach (e :: es) X.env = (false, eval e X.env) :: starEach es X.env := by rfl) (hpl : (backTo pos (starEach es X.env)).any (·.1) = false := by rfl) : OkE g X (.Call (.Name x p) (e :: es) [] pos) (evC k fa) :=
  OkE.callR C.hK hc (fun h ha => pe_callB h (C.gl hg) (C.non hb) hv ha hn hdb he hpl) O
theorem OkE.ty {id : String} {e : Expr} {es : List Expr} {p pos : Pos} {x : Str} {k : Nat → List D → Option D} {fa : Ro → Mu → Rs (List D)} (C : Cxt g bl n N sc X) (hc : BiE X (.type id) k) (hg : sc.names.lookup x = some .globalImplicit) (hb : x ∈ bl) (hv : bootBuiltins x = some (.type id)) (hn : x ≠ "__name__") (hdb : (x == ("__debug__" : Str)) = false)
    (O : OkA g X (e :: es) fa) (he : starEach (e :: es) X.env = (false, eval e X.env) :: starEach es X.env := by rfl) (hpl : (backTo pos (starEach es X.env)).any (·.1) = false := by rfl) : OkE g X (.Call (.Name x p) (e :: es) [] pos) (evC k fa) :=
  OkE.callR C.hK hc (fun h ha => pe_callTy h (C.gl hg) (C.non hb) hv ha hn hdb he hpl) O
theorem OkN.bi {id : String} {e : Expr} {es : List Expr} {p pos : Pos} {x : Str} {k : Nat → List D → Option NV} {fa : Ro → Mu → Rs (List D)} (C : Cxt g bl n N sc X) (hc : BiN X (.builtin id) k) (hg : sc.names.lookup x = some .globalImplicit) (hb : x ∈ bl) (hv : bootBuiltins x = some (.builtin id)) (hn : x ≠ "__name__") (hdb : (x == ("__debug__" : Str)) = false)
    (O : OkA g X (e :: es) fa) (he : starEach (e :: es) X.env = (false, eval e X.env) :: starEach es X.env := by rfl) (hpl : (backTo pos (starEach es X.env)).any (·.1) = false := by rfl) : OkN g X (.Call (.Name x p) (e :: es) [] pos) (evCN k fa) :=
  OkN.callR C.hK hc (fun h ha => pe_callB h (C.gl hg) (C.non hb) hv ha hn hdb he hpl) O
theorem OkN.ty {id : String} {e : Expr} {es : List Expr} {p pos : Pos} {x : Str} {k : Nat → List D → Option NV} {fa : Ro → Mu → Rs (List D)} (C : Cxt g bl n N sc X) (hc : BiN X (.type id) k) (hg : sc.names.lookup x = some .globalImplicit) (hb : x ∈ bl) (hv : bootBuiltins x = some (.type id)) (hn : x ≠ "__name__") (hdb : (x == ("__debug__" : Str)) = false)
    (O : OkA g X (e :: es) fa) (he : starEach (e :: es) X.env = (false, eval e X.env) :: starEach es X.env := by rfl) (hpl : (backTo pos (starEach es X.env)).any (·.1) = false := by rfl) : OkN g X (.Call (.Name x p) (e :: es) [] pos) (evCN k fa) :=
  OkN.callR C.hK hc (fun h ha => pe_callTy h (C.gl hg) (C.non hb) hv ha hn hdb he hpl) O

/-! ### what the built-ins give -/
theorem q1 {vs : List V} {d : D} (h : RepQs g er c H ow vs [d]) : ∃ v, vs = [v] ∧ RepQ g er c H ow v d := by
  cases h with | cons h r => cases r; exact ⟨_, rfl, h⟩
theorem q2 {vs : List V} {d e : D} (h : RepQs g er c H ow vs [d, e]) : ∃ v u, vs = [v, u] ∧ RepQ g er c H ow v d ∧ RepQ g er c H ow u e := by
  cases h with | cons h r => obtain ⟨u, rfl, h2⟩ := q1 r; exact ⟨_, _, rfl, h, h2⟩
def kLen : Nat → List D → Option D
  | _, [.lst _ xs] => some (.int xs.length)
  | _, [.tup xs] => some (.int xs.length)
  | _, [.dic _ xs] => some (.int xs.length)
  | _, [.str s] => if szB s.length then some (.int s.length) else none
  | _, _ => none
theorem bi_len : BiE X (.builtin "len") kLen := by
  intro g W σ er H ρ μ vs ds d Q hK E P r e h
  unfold kLen at e
  split at e
  · obtain ⟨v, rfl, q⟩ := q1 r
    obtain ⟨a, us, rfl, h1, h2⟩ := q_lst q
    cases e
    exact .of call_len_seq ⟨a, us, rfl, .inl (.of h1), by rw [h2.length]; exact den_d h E P (.int _)⟩
  · obtain ⟨v, rfl, q⟩ := q1 r
    obtain ⟨a, us, rfl, h1, h2⟩ := q_tup q
    cases e
    exact .of call_len_seq ⟨a, us, rfl, .inr (by rw [hK]; exact h1), by rw [h2.length]; exact den_d h E P (.int _)⟩
  · obtain ⟨v, rfl, q⟩ := q1 r
    obtain ⟨a, us, rfl, h1, h2, h3⟩ := q_dic q
    cases e
    intro pins s σ' ws I rs
    rw [Vals.ref1 rs]
    exact d_len I h1 fun t s' I' => ⟨.int us.length, H, I', ⟨_, rfl⟩, by rw [h3.length]; exact den_d h E P (.int _)⟩
  · split at e
    · rename_i hz
      obtain ⟨v, rfl, q⟩ := q1 r
      cases q_str q
      cases e
      exact .of call_len_str ⟨_, rfl, szB_ok hz, den_d h E P (.int _)⟩
    · cases e
  · cases e
def kAbs : Nat → List D → Option D
  | _, [.int i] => some (.int (if i < 0 then -i else i))
  | _, _ => none
theorem bi_abs : BiE X (.builtin "abs") kAbs := by
  intro g W σ er H ρ μ vs ds d Q hK E P r e h
  unfold kAbs at e
  split at e
  · obtain ⟨v, rfl, q⟩ := q1 r
    cases q_int q
    cases e
    exact .of call_abs ⟨_, rfl, den_d h E P (.int _)⟩
  · cases e
def kInt : Nat → List D → Option D
  | _, [.int i] => some (.int i)
  | _, [.bl b] => some (.int (if b then 1 else 0))
  | _, _ => none
theorem bi_int : BiE X (.type "int") kInt := by
  intro g W σ er H ρ μ vs ds d Q hK E P r e h
  unfold kInt at e
  split at e
  · obtain ⟨v, rfl, q⟩ := q1 r
    cases q_int q
    cases e
    exact .of call_int1 (.inl ⟨_, rfl, den_d h E P (.int _)⟩)
  · obtain ⟨v, rfl, q⟩ := q1 r
    cases q_bl q
    cases e
    exact .of call_int1 (.inr ⟨_, rfl, den_d h E P (.int _)⟩)
  · cases e
def kStr : Nat → List D → Option D
  | _, [.int i] => if decide (i.natAbs.log2 < 1920) then some (.str (Str.ofString (toString i))) else none
  | _, _ => none
theorem bi_str : BiE X (.type "str") kStr := by
  intro g W σ er H ρ μ vs ds d Q hK E P r e h
  unfold kStr at e
  split at e
  · split at e
    · rename_i hz
      obtain ⟨v, rfl, q⟩ := q1 r
      cases q_int q
      cases e
      exact .of call_str_int ⟨_, rfl, of_decide_eq_true hz, den_d h E P (.str _)⟩
    · cases e
  · cases e
/-- a list of intsD, of texts, of bools -/
def intsD : List D → Option (List Int)
  | [] => some []
  | .int i :: r => (intsD r).map (i :: ·)
  | _ :: _ => none
def strsD : List D → Option (List Str)
  | [] => some []
  | .str i :: r => (strsD r).map (i :: ·)
  | _ :: _ => none
def blsD : List D → Option (List Bool)
  | [] => some []
  | .bl i :: r => (blsD r).map (i :: ·)
  | _ :: _ => none
theorem ints_ok : ∀ {ds : List D} {ns : List Int} {vs : List V}, intsD ds = some ns → RepDs g er c H ow vs ds → vs = ns.map V.int
  | [], ns, vs, e, r => by cases e; cases r; rfl
  | d :: ds, ns, _, e, .cons h r => by
    unfold intsD at e
    split at e
    · rename_i hh; cases hh
    · rename_i hh; injection hh with h1 h2; subst h1 h2
      cases e1 : intsD ds with
      | none => rw [e1] at e; cases e
      | some m => rw [e1] at e; cases e; cases h; rw [ints_ok e1 r]; rfl
    · cases e
theorem strs_ok : ∀ {ds : List D} {ns : List Str} {vs : List V}, strsD ds = some ns → RepDs g er c H ow vs ds → vs = ns.map V.str
  | [], ns, vs, e, r => by cases e; cases r; rfl
  | d :: ds, ns, _, e, .cons h r => by
    unfold strsD at e
    split at e
    · rename_i hh; cases hh
    · rename_i hh; injection hh with h1 h2; subst h1 h2
      cases e1 : strsD ds with
      | none => rw [e1] at e; cases e
      | some m => rw [e1] at e; cases e; cases h; rw [strs_ok e1 r]; rfl
    · cases e
theorem bls_ok : ∀ {ds : List D} {ns : List Bool} {vs : List V}, blsD ds = some ns → RepDs g er c H ow vs ds → vs = ns.map V.bl
  | [], ns, vs, e, r => by cases e; cases r; rfl
  | d :: ds, ns, _, e, .cons h r => by
    unfold blsD at e
    split at e
    · rename_i hh; cases hh
    · rename_i hh; injection hh with h1 h2; subst h1 h2
      cases e1 : blsD ds with
      | none => rw [e1] at e; cases e
      | some m => rw [e1] at e; cases e; cases h; rw [bls_ok e1 r]; rfl
    · cases e
theorem reps_ints : ∀ (ns : List Int), RepDs g er c H ow (ns.map V.int) (ns.map D.int)
  | [] => .nil
  | n :: r => .cons (.int n) (reps_ints r)
theorem reps_strs : ∀ (ns : List Str), RepDs g er c H ow (ns.map V.str) (ns.map D.str)
  | [] => .nil
  | n :: r => .cons (.str n) (reps_strs r)
def kAll : Nat → List D → Option D
  | _, [.lst _ xs] => (blsD xs).map fun bs => .bl (bs.all id)
  | _, _ => none
def kAny : Nat → List D → Option D
  | _, [.lst _ xs] => (blsD xs).map fun bs => .bl (bs.any id)
  | _, _ => none
theorem bi_all (hc : X.calm = true) : BiE X (.builtin "all") kAll := by
  intro g W σ er H ρ μ vs ds d Q hK E P r e h
  unfold kAll at e
  split at e
  · obtain ⟨v, rfl, q⟩ := q1 r
    obtain ⟨a, us, rfl, h1, h2⟩ := q_lst q
    obtain ⟨bs, e1, rfl⟩ := Option.map_eq_some_iff.mp e
    exact .of (cr_all hc) ⟨a, bs, rfl, .of (by rw [← bls_ok e1 h2]; exact h1), den_d h E P (.bl _)⟩
  · cases e
theorem bi_any (hc : X.calm = true) : BiE X (.builtin "any") kAny := by
  intro g W σ er H ρ μ vs ds d Q hK E P r e h
  unfold kAny at e
  split at e
  · obtain ⟨v, rfl, q⟩ := q1 r
    obtain ⟨a, us, rfl, h1, h2⟩ := q_lst q
    obtain ⟨bs, e1, rfl⟩ := Option.map_eq_some_iff.mp e
    exact .of (cr_any hc) ⟨a, bs, rfl, .of (by rw [← bls_ok e1 h2]; exact h1), den_d h E P (.bl _)⟩
  · cases e
def maxI : Int → List Int → Int
  | m, [] => m
  | m, x :: r => maxI (if m < x then x else m) r
def minI : Int → List Int → Int
  | m, [] => m
  | m, x :: r => minI (if x < m then x else m) r
theorem maxI_spec : ∀ (r : List Int) (m : Int), (maxI m r = m ∨ maxI m r ∈ r) ∧ m ≤ maxI m r ∧ ∀ y ∈ r, y ≤ maxI m r
  | [], m => ⟨.inl rfl, Int.le_refl _, fun y h => by cases h⟩
  | x :: r, m => by
    by_cases q : m < x
    · obtain ⟨h1, h2, h3⟩ := maxI_spec r x
      have e : maxI m (x :: r) = maxI x r := by
        show maxI (if m < x then x else m) r = _
        rw [if_pos q]
      rw [e]
      refine ⟨?_, by omega, fun y hy => ?_⟩
      · rcases h1 with h1 | h1
        · rw [h1]; exact .inr (List.mem_cons_self ..)
        · exact .inr (List.mem_cons_of_mem _ h1)
      · rcases List.mem_cons.mp hy with rfl | hy
        · exact h2
        · exact h3 y hy
    · obtain ⟨h1, h2, h3⟩ := maxI_spec r m
      have e : maxI m (x :: r) = maxI m r := by
        show maxI (if m < x then x else m) r = _
        rw [if_neg q]
      rw [e]
      refine ⟨?_, h2, fun y hy => ?_⟩
      · rcases h1 with h1 | h1
        · exact .inl h1
        · exact .inr (List.mem_cons_of_mem _ h1)
      · rcases List.mem_cons.mp hy with rfl | hy
        · omega
        · exact h3 y hy
theorem minI_spec : ∀ (r : List Int) (m : Int), (minI m r = m ∨ minI m r ∈ r) ∧ minI m r ≤ m ∧ ∀ y ∈ r, minI m r ≤ y
  | [], m => ⟨.inl rfl, Int.le_refl _, fun y h => by cases h⟩
  | x :: r, m => by
    by_cases q : x < m
    · obtain ⟨h1, h2, h3⟩ := minI_spec r x
      have e : minI m (x :: r) = minI x r := by
        show minI (if x < m then x else m) r = _
        rw [if_pos q]
      rw [e]
      refine ⟨?_, by omega, fun y hy => ?_⟩
      · rcases h1 with h1 | h1
        · rw [h1]; exact .inr (List.mem_cons_self ..)
        · exact .inr (List.mem_cons_of_mem _ h1)
      · rcases List.mem_cons.mp hy with rfl | hy
        · exact h2
        · exact h3 y hy
    · obtain ⟨h1, h2, h3⟩ := minI_spec r m
      have e : minI m (x :: r) = minI m r := by
        show minI (if x < m then x else m) r = _
        rw [if_neg q]
      rw [e]
      refine ⟨?_, h2, fun y hy => ?_⟩
      · rcases h1 with h1 | h1
        · exact .inl h1
        · exact .inr (List.mem_cons_of_mem _ h1)
      · rcases List.mem_cons.mp hy with rfl | hy
        · omega
        · exact h3 y hy
def kMax : Nat → List D → Option D
  | _, [.lst _ xs] => match intsD xs with
    | some (x :: r) => some (.int (maxI x r))
    | _ => none
  | _, [.int i, .int j] => some (.int (if j > i then j else i))
  | _, _ => none
def kMin : Nat → List D → Option D
  | _, [.lst _ xs] => match intsD xs with
    | some (x :: r) => some (.int (minI x r))
    | _ => none
  | _, [.int i, .int j] => some (.int (if j < i then j else i))
  | _, _ => none
theorem bi_max (hc : X.calm = true) : BiE X (.builtin "max") kMax := by
  intro g W σ er H ρ μ vs ds d Q hK E P r e h
  unfold kMax at e
  split at e
  · split at e
    · rename_i x t e1
      obtain ⟨v, rfl, q⟩ := q1 r
      obtain ⟨a, us, rfl, h1, h2⟩ := q_lst q
      cases e
      refine .of (cr_max hc) ⟨a, x :: t, rfl, .of (by rw [← ints_ok e1 h2]; exact h1), by simp, fun m hm hy => ?_⟩
      obtain ⟨s1, s2, s3⟩ := maxI_spec t x
      have : m = maxI x t := by
        have a1 : maxI x t ≤ m := by
          rcases s1 with s1 | s1
          · rw [s1]; exact hy x (List.mem_cons_self ..)
          · exact hy _ (List.mem_cons_of_mem _ s1)
        have a2 : m ≤ maxI x t := by
          rcases List.mem_cons.mp hm with rfl | hm
          · exact s2
          · exact s3 m hm
        omega
      rw [this]; exact den_d h E P (.int _)
    · cases e
  · obtain ⟨v, u, rfl, qa, qb⟩ := q2 r
    cases q_int qa; cases q_int qb
    cases e
    exact .of (call_max2 hc) ⟨_, _, rfl, den_d h E P (.int _)⟩
  · cases e
theorem bi_min (hc : X.calm = true) : BiE X (.builtin "min") kMin := by
  intro g W σ er H ρ μ vs ds d Q hK E P r e h
  unfold kMin at e
  split at e
  · split at e
    · rename_i x t e1
      obtain ⟨v, rfl, q⟩ := q1 r
      obtain ⟨a, us, rfl, h1, h2⟩ := q_lst q
      cases e
      refine .of (cr_min hc) ⟨a, x :: t, rfl, .of (by rw [← ints_ok e1 h2]; exact h1), by simp, fun m hm hy => ?_⟩
      obtain ⟨s1, s2, s3⟩ := minI_spec t x
      have : m = minI x t := by
        have a1 : m ≤ minI x t := by
          rcases s1 with s1 | s1
          · rw [s1]; exact hy x (List.mem_cons_self ..)
          · exact hy _ (List.mem_cons_of_mem _ s1)
        have a2 : minI x t ≤ m := by
          rcases List.mem_cons.mp hm with rfl | hm
          · exact s2
          · exact s3 m hm
        omega
      rw [this]; exact den_d h E P (.int _)
    · cases e
  · obtain ⟨v, u, rfl, qa, qb⟩ := q2 r
    cases q_int qa; cases q_int qb
    cases e
    exact .of (call_min2 hc) ⟨_, _, rfl, den_d h E P (.int _)⟩
  · cases e
def kSum : Nat → List D → Option D
  | _, [.lst _ xs] => (intsD xs).map fun ns => .int ns.sum
  | _, _ => none
theorem bi_sum (hc : X.calm = true) : BiE X (.builtin "sum") kSum := by
  intro g W σ er H ρ μ vs ds d Q hK E P r e h
  unfold kSum at e
  split at e
  · obtain ⟨v, rfl, q⟩ := q1 r
    obtain ⟨a, us, rfl, h1, h2⟩ := q_lst q
    obtain ⟨ns, e1, rfl⟩ := Option.map_eq_some_iff.mp e
    exact .of (cr_sum hc) ⟨a, ns, rfl, .of (by rw [← ints_ok e1 h2]; exact h1), den_d h E P (.int _)⟩
  · cases e
def dKey : Key → D
  | .inl i => .int i
  | .inr s => .str s
theorem reps_keys : ∀ {vs : List (Key × V)} {ds : List (Key × D)}, RepKs g er c H ow vs ds → RepDs g er c H ow (vs.map fun kv => kV kv.1) (ds.map fun kv => dKey kv.1)
  | _, _, .nil => .nil
  | _, _, .cons (k := k) _ r => by
    cases k with
    | inl i => exact .cons (.int i) (reps_keys r)
    | inr s => exact .cons (.str s) (reps_keys r)
def kList : Nat → List D → Option NV
  | c, [.lst _ xs] => some (.nl c xs)
  | c, [.tup xs] => some (.nl c xs)
  | c, [.dic _ xs] => some (.nl c (xs.map fun kv => dKey kv.1))
  | _, _ => none
theorem bi_list (hc : X.calm = true) : BiN X (.type "list") kList := by
  intro g W σ er H H0 ρ μ vs ds d Q hK E P r h0 e h
  unfold kList at e
  split at e
  · obtain ⟨v, rfl, q⟩ := q1 r
    obtain ⟨a, us, rfl, h1, h2⟩ := q_lst q
    cases e
    exact .of call_list_of ⟨a, us, rfl, .inl (.of h1), fun p hp => h.nl E P hp (h0 p) h2⟩
  · obtain ⟨v, rfl, q⟩ := q1 r
    obtain ⟨a, us, rfl, h1, h2⟩ := q_tup q
    cases e
    exact .of call_list_of ⟨a, us, rfl, .inr (by rw [hK]; exact h1), fun p hp => h.nl E P hp (h0 p) h2⟩
  · obtain ⟨v, rfl, q⟩ := q1 r
    obtain ⟨a, us, rfl, h1, h2, h3⟩ := q_dic q
    cases e
    exact .of (call_listD hc) ⟨a, us, rfl, h1, fun p hp => h.nl E P hp (h0 p) (reps_keys h3)⟩
  · cases e
def kTuple : Nat → List D → Option D
  | _, [.lst _ xs] => some (.tup xs)
  | _, [.tup xs] => some (.tup xs)
  | _, _ => none
theorem bi_tuple : BiE X (.type "tuple") kTuple := by
  intro g W σ er H ρ μ vs ds d Q hK E P r e h
  unfold kTuple at e
  split at e
  · obtain ⟨v, rfl, q⟩ := q1 r
    obtain ⟨a, us, rfl, h1, h2⟩ := q_lst q
    cases e
    exact .of call_tuple_of ⟨a, us, rfl, .inl ⟨.of h1, fun p hp => den_tup h E P h2 hp⟩⟩
  · obtain ⟨v, rfl, q⟩ := q1 r
    obtain ⟨a, us, rfl, h1, h2⟩ := q_tup q
    cases e
    exact .of call_tuple_of ⟨a, us, rfl, .inr ⟨by rw [hK]; exact h1, den_d h E P (.tup h1 h2)⟩⟩
  · cases e
def srtD (xs : List D) : Option (List D) := match intsD xs with
  | some ns => some ((srtL ltI ns).map .int)
  | none => match strsD xs with
    | some ss => if decide (ss.length < 64) then some ((srtL ltS ss).map .str) else none
    | none => none
def kSorted : Nat → List D → Option NV
  | c, [.lst _ xs] => (srtD xs).map (.nl c)
  | _, _ => none
theorem bi_sorted : BiN X (.builtin "sorted") kSorted := by
  intro g W σ er H H0 ρ μ vs ds d Q hK E P r h0 e h
  unfold kSorted at e
  split at e
  · obtain ⟨v, rfl, q⟩ := q1 r
    obtain ⟨a, us, rfl, h1, h2⟩ := q_lst q
    obtain ⟨ys, e1, rfl⟩ := Option.map_eq_some_iff.mp e
    unfold srtD at e1
    split at e1
    · rename_i ns e2
      cases e1
      refine .of cr_sortedI ⟨a, ns, rfl, .of (by rw [← ints_ok e2 h2]; exact h1), fun ns' p hp hs hn => ?_⟩
      rw [ltI_one hp hs]
      exact h.nl E P hn (h0 p) (reps_ints _)
    · split at e1
      · rename_i ss e2
        split at e1
        · rename_i hz
          cases e1
          refine .of cr_sortedS ⟨a, ss, rfl, .of (by rw [← strs_ok e2 h2]; exact h1), of_decide_eq_true hz, fun ns' p hp hs hn => ?_⟩
          rw [ltS_one hp hs]
          exact h.nl E P hn (h0 p) (reps_strs _)
        · cases e1
      · cases e1
  · cases e
end
end GW

set_option maxHeartbeats 1000000
namespace GW
open PySem PySem.Spec PyProof.Rows L2
theorem tail_of {prog : Program} {w : World} {A : Around} {E : Value → Shared → Prop} {s : Shared} {value slice : Expr} {o i : Value} {T id : String} {Q : Value → Shared → Prop} (hT : s.TypeIs o T) (hl : typeLookup (.type T) "__getitem__" = pure (some (.builtin id)))
    (h : wpAny (model prog w) A (getItem o i) Q E s) (hs : subscripted slice false o i = operate [o, i] (getItem o i)) : wpAny (model prog w) A (subscriptTail value slice o i) Q E s := by
  unfold subscriptTail
  refine wpAny_bind ?_
  rw [getitemInPython_of_ne hT.not_modules]
  refine wpAny_bind (wpAny_specialOf hT hl ?_)
  have last : wpAny (model prog w) A (subscripted slice false o i) (fun r s₃ => wpAny (model prog w) A (letTemporaryGo value o r >>= fun _ => pure r) Q E s₃) E s := by
    rw [hs]
    exact wpAny_operating (wpAny_mono h (fun r s₃ h₃ => wpAny_bind (wpAny_letTemporaryGo (wpAny_pure h₃))) fun _ _ x => x)
  first
    | exact wpAny_pure (wpAny_bind last)
    | exact wpAny_bind (wpAny_pure (wpAny_bind last))
    | exact wpAny_bind last
section
variable {g : Gd} {X : Cx} {W : WX} {σ : St} {er : Er} {H : Hp} {ρ : Ro} {μ : Mu} {c : Nat} {ow ow' : Addr → Prop} {av : Addr → Prop} {bl : List Str} {n : Nat} {N : List Str} {sc : Scope} {α β : Type}

/-! ### subscripts -/
def RunIx (X : Cx) : R2 := fun x y H Q => ∀ (value slice : Expr) (pins : List (Addr × Obj)) (s : Shared) (σ : St) (v u : Value), Inv X pins σ H s → RelV x v → RelV y u →
  subscripted slice false v u = operate [v, u] (getItem v u) → wpAny (model X.prog X.w) X.A (subscriptTail value slice v u) (EP X pins σ Q) X.xe s
theorem ixR : IxR X (RunIx X) := fun value slice pins s σ H x y v u Q I rx ry h hs => h value slice pins s σ v u I rx ry hs
theorem RunIx.of {r : R2} {x y : V} {Q : VK} (h : IxR X r) (q : r x y H Q) : RunIx X x y H Q := fun value slice pins s σ v u I rx ry hs => h value slice pins s σ H x y v u Q I rx ry q hs
theorem ix_dict (hu : X.A.units + 1 < cLine) : IxR X (fun x y H Q => ∃ a v, x = .ref a ∧ DGet H a y (some v) ∧ Q v H) := by
  intro value slice pins s σ H x y v u Q I rx ry h hs
  obtain ⟨a, z, rfl, g, q⟩ := h
  obtain rfl : v = Value.ref a := rx
  exact tail_of (dict_typeIs I g) PySem.F.slot_dict_getitem.lookup (d_getItem hu I g ry fun w' s3 I3 rw' => ⟨z, H, I3, rw', q⟩) hs
def opIx : D → D → Option D
  | .lst _ xs, .int i => atI xs i
  | .tup xs, .int i => atI xs i
  | .str z, .int i => if szB z.length then (atI z.cps.toList i).map fun k => .str ⟨#[k]⟩ else none
  | .dic _ kvs, y => match keyD y with
    | some k => lookD kvs k
    | none => none
  | _, _ => none
theorem RepDs.at {vs : List V} {ds : List D} {i : Int} {d : D} (r : RepDs g er c H ow vs ds) (h : atI ds i = some d) : ∃ v, atI vs i = some v ∧ RepD g er c H ow v d := by
  unfold atI at h ⊢
  rw [r.length]
  cases e : ixN ds.length i with
  | none => rw [e] at h; cases h
  | some j => rw [e] at h; exact r.get h
theorem keyD_rep {v : V} {d : D} {k : Key} (h : RepQ g er c H ow v d) (e : keyD d = some k) : v = kV k := by
  unfold keyD at e
  split at e
  · cases e; exact q_int h
  · cases e; exact q_str h
  · cases e
theorem ix_ok {x y d : D} {v u : V} {Q : VK} (hK : X.K = g.K) (hu : X.A.units + 65 < cLine) (E : RepEnv g er μ.ec H ρ σ) (P : HpOk g er H μ) (hx : RepQ g er μ.ec H (Ow ρ σ) v x) (hy : RepQ g er μ.ec H (Ow ρ σ) u y)
    (e : opIx x y = some d) (h : Den g W σ er H ρ μ (.ok d ρ μ) Q) : RunIx X v u H Q := by
  unfold opIx at e
  split at e
  · obtain ⟨a, vs, rfl, h1, r⟩ := q_lst hx
    cases q_int hy
    obtain ⟨z, h2, h3⟩ := r.at e
    exact .of ix_list ⟨a, vs, _, z, rfl, rfl, .of h1, h2, den_d h E P h3⟩
  · obtain ⟨a, vs, rfl, h1, r⟩ := q_tup hx
    cases q_int hy
    obtain ⟨z, h2, h3⟩ := r.at e
    exact .of ix_tup ⟨a, vs, _, z, rfl, rfl, by rw [hK]; exact h1, h2, den_d h E P h3⟩
  · split at e
    · rename_i hz
      cases q_str hx; cases q_int hy
      obtain ⟨k, h2, rfl⟩ := Option.map_eq_some_iff.mp e
      exact .of ix_str ⟨_, _, k, rfl, rfl, szB_ok hz, h2, den_d h E P (.str _)⟩
    · cases e
  · split at e
    · rename_i k e1
      obtain ⟨a, vs, rfl, h1, h2, r⟩ := q_dic hx
      rw [keyD_rep hy e1]
      rcases look_rep (k := k) r with ⟨_, z⟩ | ⟨z, d', h3, h4, h5⟩
      · rw [z] at e; cases e
      · rw [h4] at e; cases e
        exact .of (ix_dict (by omega)) ⟨a, z, rfl, by rw [← h3]; exact dget_rep h1, den_d h E P h5⟩
    · cases e
  · cases e
theorem OkE.ix {a b : Expr} {fa fb : Ro → Mu → Rs D} {pos : Pos} (C : Cxt g bl n N sc X) (Oa : OkE g X a fa) (Ob : OkE g X b fb) (hs : PlainIx b) : OkE g X (.Subscript a b pos) (ev2 (fun _ x y => opIx x y) fa fb) := by
  intro av W σ er H ρ μ Q tk E P h
  refine .of (pe_ix ixR peR peR hs) (run_two Oa Ob tk E P h fun x y ρ2 μ2 v u H2 er2 E2 P2 hx hy h2 => ?_)
  obtain ⟨a', b', d, e1, e2, e3, h3⟩ := den_two h2
  exact ix_ok (g := g.at av) C.hK C.hu E2 P2 (rsv_ok E2 hx e1) (rsv_ok E2 hy e2) e3 h3

/-! ### slices -/
def cutD {α : Type} (xs : List α) (lo hi : Option Int) : List α := (xs.drop (HT.sIx xs.length 0 lo)).take (HT.sIx xs.length xs.length hi - HT.sIx xs.length 0 lo)
theorem RepDs.cut {vs : List V} {ds : List D} {lo hi : Option Int} (r : RepDs g er c H ow vs ds) : RepDs g er c H ow (cutV vs lo hi) (cutD ds lo hi) := by
  unfold cutV cutD
  rw [r.length]
  exact (r.drop _).take _
def RunSl (X : Cx) : V → Option Int → Option Int → Hp → VK → Prop := fun x lo hi H Q => ∀ (pins : List (Addr × Obj)) (s : Shared) (σ : St) (v vl vu : Value) (sl : Addr), Inv X pins σ H s → RelV x v → s.heap.IsSliceOf sl vl vu .none → IsPart vl lo → IsPart vu hi →
  ∃ T id, typeLookup (.type T) "__getitem__" = pure (some (.builtin id)) ∧ s.TypeIs v T ∧ wpAny (model X.prog X.w) X.A (getItem v (.ref sl)) (EP X pins σ Q) X.xe s
theorem slR : SlR X (RunSl X) := fun pins s σ H x v vl vu lo hi sl Q I rx hs pl pu h => h pins s σ v vl vu sl I rx hs pl pu
theorem RunSl.of {r : V → Option Int → Option Int → Hp → VK → Prop} {x : V} {lo hi : Option Int} {Q : VK} (h : SlR X r) (q : r x lo hi H Q) : RunSl X x lo hi H Q := fun pins s σ v vl vu sl I rx hs pl pu => h pins s σ H x v vl vu lo hi sl Q I rx hs pl pu q
/-- a slice's part -/
def RunPt (X : Cx) (e : Option Expr) : TO := fun σ H Q => ∀ (pins : List (Addr × Obj)) (s : Shared), Inv X pins σ H s → wpAny (model X.prog X.w) X.A (evalPart e X.env) (fun u s' => ∃ o H', Inv X pins σ H' s' ∧ IsPart u o ∧ Q o H') X.xe s
theorem poR {e : Option Expr} : PO X e (RunPt X e) := ⟨fun pins s σ H Q I h => h pins s I⟩
theorem RunPt.of {e : Option Expr} {t : TO} {Q : Option Int → Hp → Prop} (h : PO X e t) (q : t σ H Q) : RunPt X e σ H Q := fun pins s I => h.run pins s σ H Q I q
def OkPt (g : Gd) (X : Cx) (e : Option Expr) (f : Ro → Mu → Rs (Option Int)) : Prop := ∀ (av : Addr → Prop) (W : WX) (σ : St) (er : Er) (H : Hp) (ρ : Ro) (μ : Mu) (Q : Option Int → Hp → Prop), Takes X W → RepEnv (g.at av) er μ.ec H ρ σ → HpOk (g.at av) er H μ →
  DenG (g.at av) W σ er H ρ μ (f ρ μ) (fun o _ _ H' _ => Q o H') → RunPt X e σ H Q
def evPt (f : Ro → Mu → Rs D) : Ro → Mu → Rs (Option Int) := fun ρ μ => (f ρ μ).bind fun d ρ1 μ1 => match d with
  | .int i => .ok (some i) ρ1 μ1
  | _ => .no
def evP0 : Ro → Mu → Rs (Option Int) := fun ρ μ => .ok none ρ μ
theorem OkPt.none : OkPt g X none evP0 := fun av W σ er H ρ μ Q tk E P h => .of po_none (h.ok E P)
theorem OkPt.some {e : Expr} {f : Ro → Mu → Rs D} (O : OkE g X e f) : OkPt g X (some e) (evPt f) := by
  intro av W σ er H ρ μ Q tk E P h
  refine .of (po_some peR) (runE O tk E P h fun d ρ1 μ1 v H1 er1 E1 P1 r1 h1 => ?_)
  cases d with
  | int i =>
    cases r1 with
    | d r1 => cases r1; exact ⟨i, rfl, h1.ok E1 P1⟩
  | _ => exact h1.elim
def opSl (c : Nat) (x : D) (lo hi : Option Int) : Option D := match x with
  | .lst _ xs => some (.lst c (cutD xs lo hi))
  | .tup xs => some (.tup (cutD xs lo hi))
  | .str z => if szB z.length then some (.str (cutS z lo hi)) else none
  | _ => none
def evSl (fe : Ro → Mu → Rs D) (fl fh : Ro → Mu → Rs (Option Int)) : Ro → Mu → Rs D := fun ρ μ => (fe ρ μ).bind fun x ρ1 μ1 => (fl ρ1 μ1).bind fun lo ρ2 μ2 => (fh ρ2 μ2).bind fun hi ρ3 μ3 => one (fun c y => opSl c y lo hi) x ρ3 μ3
theorem cut_all {α : Type} {xs : List α} {lo hi : Option Int} (h : HT.sIx xs.length 0 lo = 0 ∧ HT.sIx xs.length xs.length hi = xs.length) : cutD xs lo hi = xs := by
  unfold cutD
  rw [h.1, h.2]; simp
theorem sl_ok {x d : D} {v : V} {lo hi : Option Int} {Q : VK} (hK : X.K = g.K) (E : RepEnv g er μ.ec H ρ σ) (P : HpOk g er H μ) (hx : RepQ g er μ.ec H (Ow ρ σ) v x) (e : opSl μ.ec x lo hi = some d) (h : Den g W σ er H ρ μ (.ok d ρ μ) Q) : RunSl X v lo hi H Q := by
  unfold opSl at e
  split at e
  · obtain ⟨a, vs, rfl, h1, r⟩ := q_lst hx
    cases e
    exact .of sl_list ⟨a, vs, rfl, .of h1, fun p hp => den_lst h E P r.cut hp⟩
  · obtain ⟨a, vs, rfl, h1, r⟩ := q_tup hx
    cases e
    refine .of sl_tupA ⟨a, vs, rfl, by rw [hK]; exact h1, fun z => ?_, fun _ p hp => den_tup h E P r.cut hp⟩
    rw [r.length] at z
    rw [cut_all z] at h
    exact den_d h E P (.tup h1 r)
  · split at e
    · rename_i hz
      cases q_str hx
      cases e
      exact .of sl_str ⟨_, rfl, szB_ok hz, den_d h E P (.str _)⟩
    · cases e
  · cases e
theorem OkE.sl {e : Expr} {lo hi : Option Expr} {fe : Ro → Mu → Rs D} {fl fh : Ro → Mu → Rs (Option Int)} {p2 pos : Pos} (hK : X.K = g.K) (O : OkE g X e fe) (Ol : OkPt g X lo fl) (Oh : OkPt g X hi fh) : OkE g X (.Subscript e (.Slice lo hi none p2) pos) (evSl fe fl fh) := by
  intro av W σ er H ρ μ Q tk E P h
  have h := h.toG
  refine .of (pe_slice slR peR poR poR) (O av W σ er H ρ μ _ tk E P (DenG.e (h.bind fun x ρ1 μ1 H1 er1 _ n1 h1 v r1 => ?_)))
  refine Ol av W σ er1 H1 ρ1 μ1 _ tk n1.env n1.hp (h1.bind fun l ρ2 μ2 H2 er2 _ n2 h2 => ?_)
  refine Oh av W σ er2 H2 ρ2 μ2 _ tk n2.env n2.hp (h2.bind fun u ρ3 μ3 H3 er3 _ n3 h3 => ?_)
  obtain ⟨y, d, e1, e2, h4⟩ := den_one h3.e
  have r3 := (r1.nx n2 n1.env n1.hp).nx n3 n2.env n2.hp
  exact sl_ok (g := g.at av) hK n3.env n3.hp (rsv_ok n3.env r3 e1) e2 h4

/-! ### isinstance -/
/-- a name of a class, or of a type -/
structure TyNm (X : Cx) (x : Str) (cv : V) (u : Value) : Prop where
  cl : ClsV cv u
  pe : ∀ pos, PE X (.Name x pos) (tC cv)
theorem Cxt.tyNm {x : Str} {T : String} (C : Cxt g bl n N sc X) (hg : sc.names.lookup x = some .globalImplicit) (hb : x ∈ bl) (hv : bootBuiltins x = some (.type T)) (hn : x ≠ "__name__") (hd : (x == ("__debug__" : Str)) = false) : TyNm X x (.ty T) (.type T) :=
  ⟨.ty T, fun pos => pe_bltn (C.gl hg) (C.non hb) hv rfl hn hd⟩
def tyName : D → Option String
  | .non => some "NoneType"
  | .bl _ => some "bool"
  | .int _ => some "int"
  | .str _ => some "str"
  | .tup _ => some "tuple"
  | .lst _ _ => some "list"
  | .dic _ _ => some "dict"
  | _ => none
theorem tyX_of {v : V} {d : D} {t : String} (hK : X.K = g.K) (h : RepQ g er c H ow v d) (e : tyName d = some t) : TyX X.K H v (.type t) := by
  unfold tyName at e
  split at e
  · cases e; cases q_non h; exact .base .non
  · cases e; cases q_bl h; exact .base (.bl _)
  · cases e; cases q_int h; exact .base (.int _)
  · cases e; cases q_str h; exact .base (.str _)
  · cases e
    obtain ⟨a, vs, rfl, h1, r⟩ := q_tup h
    rcases h1 with (h1 | ⟨o, h1⟩) | ⟨o, its, n, h1, h2, h3⟩
    · exact .base (.tup h1)
    · exact .fTuple h1
    · exact .kTuple (by rw [hK]; exact h1) h2
  · cases e
    obtain ⟨a, vs, rfl, h1, r⟩ := q_lst h
    exact .base (.lst h1)
  · cases e
    obtain ⟨a, vs, rfl, h1, nd, r⟩ := q_dic h
    rcases h1 with h1 | ⟨o, h1⟩
    · exact .base (.dK h1)
    · exact .fDict h1
  · cases e
/-- the built-in types here -/
def isT (t T : String) : Bool := t == T || (t == "bool" && T == "int")
def tyOk (T : String) : Bool := (["NoneType", "bool", "int", "str", "tuple", "list", "dict"].all fun t => kitB t T == some (isT t T))
theorem tyOk_all : (["bool", "int", "str", "tuple", "list", "dict", "float"].all tyOk) = true := by decide +kernel
theorem tyName_mem {d : D} {t : String} (h : tyName d = some t) : t ∈ ["NoneType", "bool", "int", "str", "tuple", "list", "dict"] := by
  unfold tyName at h
  split at h <;> cases h <;> simp
theorem kit_one {d : D} {t T : String} {K : PySem.W.Frag} (h : tyName d = some t) (hT : tyOk T = true) : PySem.W.kitOne K (.type t) (.type T) = some (isT t T) := by
  have := List.all_eq_true.mp hT t (tyName_mem h)
  exact kit_ty (eq_of_beq this)
def isiD (d : D) (T : String) : Option D := (tyName d).map fun t => .bl (isT t T)
def evIsi (T : String) (f : Ro → Mu → Rs D) : Ro → Mu → Rs D := ev1 (fun _ d => isiD d T) f
def isiDs (d : D) (Ts : List String) : Option D := (tyName d).map fun t => .bl (Ts.any fun T => isT t T)
def evIsis (Ts : List String) (f : Ro → Mu → Rs D) : Ro → Mu → Rs D := ev1 (fun _ d => isiDs d Ts) f
theorem OkE.isi {a : Expr} {f : Ro → Mu → Rs D} {x : Str} {T : String} {p p2 pos : Pos} (C : Cxt g bl n N sc X) (hg : sc.names.lookup ("isinstance" : Str) = some .globalImplicit) (hb : ("isinstance" : Str) ∈ bl) (Tn : TyNm X x (.ty T) (.type T)) (hT : tyOk T = true) (O : OkE g X a f)
    (he : starEach [a, .Name x p2] X.env = (false, eval a X.env) :: starEach [.Name x p2] X.env := by rfl) : OkE g X (.Call (.Name "isinstance" p) [a, .Name x p2] [] pos) (evIsi T f) := by
  intro av W σ er H ρ μ Q tk E P h
  refine .of (pe_callB (call_isi (X := X)) (C.gl hg) (C.non hb) (by kernel_rfl) (pa_cons peR (pa_cons (Tn.pe _) pa_nil) he) (by decide +kernel) (by decide +kernel) he) (run_one O tk E P h fun x ρ1 μ1 v H1 er1 E1 P1 hx h1 => ?_)
  obtain ⟨y, d, e1, e2, h2⟩ := den_one h1
  obtain ⟨t, e3, rfl⟩ := Option.map_eq_some_iff.mp e2
  exact ⟨v, .ty T, .type t, .type T, isT t T, rfl, .ty T, tyX_of (g := g.at av) C.hK (rsv_ok E1 hx e1) e3, kit_one e3 hT, den_d h2 E1 P1 (.bl _)⟩
inductive TyNms (X : Cx) : List Expr → List String → Prop
  | nil : TyNms X [] []
  | cons {x : Str} {T : String} {p : Pos} {es : List Expr} {Ts : List String} (h : TyNm X x (.ty T) (.type T)) (hT : tyOk T = true) (r : TyNms X es Ts) : TyNms X (.Name x p :: es) (T :: Ts)
theorem TyNms.pa {es : List Expr} {Ts : List String} (h : TyNms X es Ts) : ∃ t : TA, PA X es t ∧ ∀ σ H Q, Q (Ts.map V.ty) H → t σ H Q := by
  induction h with
  | nil => exact ⟨_, pa_nil, fun σ H Q q => q⟩
  | cons h hT r ih =>
    obtain ⟨t, h1, h2⟩ := ih
    exact ⟨_, pa_cons (h.pe _) h1, fun σ H Q q => h2 σ H _ q⟩
theorem TyNms.cls {es : List Expr} {Ts : List String} (h : TyNms X es Ts) : Paired ClsV (Ts.map V.ty) (Ts.map Value.type) := by
  induction h with
  | nil => exact .nil
  | cons h hT r ih => exact .cons (.ty _) ih
theorem TyNms.kit {es : List Expr} {Ts : List String} {d : D} {t : String} {K : PySem.W.Frag} (h : TyNms X es Ts) (e : tyName d = some t) : PySem.W.kitAny K (.type t) (Ts.map Value.type) = some (Ts.any fun T => isT t T) := by
  induction h with
  | nil => rfl
  | @cons x T p es Ts h hT r ih =>
    show PySem.W.kitAny K (.type t) (.type T :: Ts.map Value.type) = some (isT t T || Ts.any fun T => isT t T)
    refine kitAny_cons (kit_one e hT) (fun z => ?_) (fun z => ?_)
    · rw [z, ih]; rfl
    · rw [z]; rfl
theorem TyNms.len {es : List Expr} {Ts : List String} (h : TyNms X es Ts) : es.length = Ts.length := by
  induction h with
  | nil => rfl
  | cons h hT r ih => simp [ih]
theorem OkE.isis {a : Expr} {es : List Expr} {f : Ro → Mu → Rs D} {Ts : List String} {x1 : Nat} {p p2 pos : Pos} (C : Cxt g bl n N sc X) (hg : sc.names.lookup ("isinstance" : Str) = some .globalImplicit) (hb : ("isinstance" : Str) ∈ bl) (Tn : TyNms X es Ts) (hl : Ts.length ≤ 64) (O : OkE g X a f)
    (he : starEach [a, .Tuple es x1 p2] X.env = (false, eval a X.env) :: starEach [.Tuple es x1 p2] X.env := by rfl) : OkE g X (.Call (.Name "isinstance" p) [a, .Tuple es x1 p2] [] pos) (evIsis Ts f) := by
  intro av W σ er H ρ μ Q tk E P h
  obtain ⟨t, h1, h2⟩ := Tn.pa
  refine .of (pe_callB (call_isiT (X := X)) (C.gl hg) (C.non hb) (by kernel_rfl) (pa_cons peR (pa_cons (pe_tup h1) pa_nil) he) (by decide +kernel) (by decide +kernel) he) (run_one O tk E P h fun x ρ1 μ1 v H1 er1 E1 P1 hx h3 => ?_)
  refine h2 _ _ _ ⟨by rw [List.length_map, sizeLine_eq]; omega, fun q hq => ?_⟩
  obtain ⟨y, d, e1, e2, h4⟩ := den_one h3
  obtain ⟨t, e3, rfl⟩ := Option.map_eq_some_iff.mp e2
  have n2 := nx_new (o := .tup (Ts.map V.ty)) E1 P1 hq
  exact ⟨v, q, Ts.map V.ty, .type t, Ts.map Value.type, _, rfl, upd_same, Tn.cls, tyX_of (g := g.at av) C.hK (rsv_ok n2.env (hx.nx n2 E1 P1) e1) e3, Tn.kit e3, h4.toG.ok' n2 _ (.d (.bl _))⟩
end
end GW

set_option maxHeartbeats 1000000
namespace GW
open PySem PySem.Spec PyProof.Rows L2
section
variable {g : Gd} {X : Cx} {W : WX} {σ : St} {er : Er} {H : Hp} {ρ : Ro} {μ : Mu} {c : Nat} {ow ow' : Addr → Prop} {av : Addr → Prop} {bl : List Str} {n : Nat} {N : List Str} {sc : Scope} {α β : Type}

/-! ### own objects are written -/
theorem upd_some {a : Addr} {o : HO} (b : Addr) (h : H b ≠ none) : upd H a o b ≠ none := by
  by_cases e : b = a
  · rw [e, upd_same]; exact fun z => nomatch z
  · rw [upd_ne e]; exact h
theorem ext_mut {a : Addr} {o : HO} (ha : ow a) (hz : ∀ o' u, o ≠ .frz o' u := by intro _ _ z; cases z) : Ext g ow er c H er c (upd H a o) :=
  ⟨fun b o' h n1 _ _ _ => by rw [upd_ne (fun z => n1 (by rw [z]; exact ha))]; exact h, fun b h => upd_some b h, fun _ _ => rfl, Nat.le_refl _, fun _ _ _ h1 h2 => absurd (Nat.lt_of_lt_of_le h1 h2) (Nat.lt_irrefl _), fun b o' u h => by
    by_cases e : b = a
    · rw [e, upd_same] at h; exact absurd (Option.some.inj h) (hz o' u)
    · rw [upd_ne e] at h; exact h⟩
theorem tabs_mut {T : List (Addr × Str)} {a : Addr} {o u : HO} (h : LamX.Tabs T H) (ha : H a = some u) (hu : (∃ vs, u = .lst vs) ∨ ∃ vs, u = .dK vs) : LamX.Tabs T (upd H a o) := by
  intro p hp
  obtain ⟨ps, h1, h2, h3⟩ := h p hp
  refine ⟨ps, ?_, h2, fun pos cv e => ?_⟩
  · rw [upd_ne (fun z => by rw [z, ha] at h1; rcases hu with ⟨vs, rfl⟩ | ⟨vs, rfl⟩ <;> cases h1)]; exact h1
  · obtain ⟨c', e1, e2⟩ := h3 pos cv e
    refine ⟨c', e1, ?_⟩
    rw [upd_ne (fun z => by rw [z, ha] at e2; rcases hu with ⟨vs, rfl⟩ | ⟨vs, rfl⟩ <;> exact absurd e2 (fun z => by unfold LamX.CodeO at z; cases z))]; exact e2
theorem isOw_set {i j : Nat} {sv : SV} (ho : isOw ρ i) (hs : isOwn sv = true) (h : isOw (ρ.set i sv) j) : isOw ρ j := by
  obtain ⟨sv', h3, h4⟩ := isOw_iff.mp h
  rcases get_set h3 with ⟨e, rfl⟩ | ⟨e, h3⟩
  · rw [e]; exact ho
  · exact isOw_iff.mpr ⟨_, h3, h4⟩
theorem ow_same {i : Nat} {sv : SV} {a : Addr} (ho : isOw ρ i) (hs : isOwn sv = true) (h : Ow (ρ.set i sv) σ a) : Ow ρ σ a := let ⟨j, h1, h2⟩ := h; ⟨j, isOw_set ho hs h1, h2⟩
/-- the frame's own list (dict) at i is written: sv what it is now -/
theorem nx_mut {i : Nat} {a : Addr} {o : HO} {sv : SV} (E : RepEnv g er μ.ec H ρ σ) (P : HpOk g er H μ) (ho : isOw ρ i) (hi : σ[i]? = some (some (V.ref a))) (hs : isOwn sv = true)
    (hv : RepSV g er μ.ec (upd H a o) (Ow ρ σ) (.ref a) sv) (hz : ∀ o' u, o ≠ .frz o' u := by intro _ _ z; cases z) : Nx g σ er H ρ μ er (upd H a o) (ρ.set i sv) μ := by
  have oa : Ow ρ σ a := ⟨i, ho, hi⟩
  have x : Ext g (Ow ρ σ) er μ.ec H er μ.ec (upd H a o) := ext_mut oa hz
  have sub : ∀ b, Ow (ρ.set i sv) σ b → Ow ρ σ b := fun b h => ow_same ho hs h
  obtain ⟨u, hu, hu'⟩ : ∃ u, H a = some u ∧ ((∃ vs, u = .lst vs) ∨ ∃ vs, u = HO.dK vs) := (E.owl a oa).elim (fun ⟨vs, q⟩ => ⟨_, q, .inl ⟨_, rfl⟩⟩) fun ⟨vs, q⟩ => ⟨_, q, .inr ⟨_, rfl⟩⟩
  have nsa : a ≠ g.sa ∧ a ≠ g.sb := by
    rcases ho with ⟨e, xs, q⟩ | ⟨e, xs, q⟩
    · obtain ⟨a', vs, h1, _, _, _, _, h⟩ := E.ol i e xs q
      rw [hi] at h1; cases h1; exact h
    · obtain ⟨a', vs, h1, _, _, _, _, _, h⟩ := E.od i e xs q
      rw [hi] at h1; cases h1; exact h
  have il := isOw_lt E (Classical.choose_spec (isOw_iff.mp ho)).1
  have hil : i < ρ.length := by rw [E.len]; exact il
  have ne : ∀ j b, j ≠ i → isOw ρ j → σ[j]? = some (some (V.ref b)) → b ≠ a := fun j b hj h1 h2 z => hj (E.inj j i a h1 ho (by rw [← z]; exact h2) hi)
  refine ⟨x, ⟨by rw [List.length_set]; exact E.len, fun j d h => ?_, fun j e xs h => ?_, fun j e xs h => ?_, fun j k b h1 h2 h3 h4 => E.inj j k b (isOw_set ho hs h1) (isOw_set ho hs h2) h3 h4⟩, ⟨?_, ?_, P.ne, P.mu, fun b h => upd_some b (P.er b h), tabs_mut P.tabs hu hu', fun b h => upd_some b (P.av b h), P.nav⟩, fun b h => .inl (sub b h)⟩
  · rcases get_set h with ⟨_, z⟩ | ⟨hj, h⟩
    · rw [← z] at hs; cases hs
    · obtain ⟨v, h1, h2⟩ := E.val j d h
      exact ⟨v, h1, RepV.less sub (RepV.ext x E.owl P.sal (fun _ => .inl) h2)⟩
  · rcases get_set h with ⟨hj, z⟩ | ⟨hj, h⟩
    · subst z
      obtain ⟨a', vs, e1, h2, h3, h4, h5⟩ := hv
      cases e1
      exact ⟨a, vs, by rw [hj]; exact hi, h2, h3, RepDs.less sub h4, h5⟩
    · obtain ⟨b, vs, h1, h2, h3, h4, h5⟩ := E.ol j e xs h
      exact ⟨b, vs, h1, by rw [upd_ne (ne j b hj (.inl ⟨_, _, h⟩) h1)]; exact h2, h3, RepDs.less sub (RepDs.ext x E.owl P.sal (fun _ => .inl) h4), h5⟩
  · rcases get_set h with ⟨hj, z⟩ | ⟨hj, h⟩
    · subst z
      obtain ⟨a', vs, e1, h2, h3, h3', h4, h5⟩ := hv
      cases e1
      exact ⟨a, vs, by rw [hj]; exact hi, h2, h3, h3', RepKs.less sub h4, h5⟩
    · obtain ⟨b, vs, h1, h2, h3, h3', h4, h5⟩ := E.od j e xs h
      exact ⟨b, vs, h1, by rw [upd_ne (ne j b hj (.inr ⟨_, _, h⟩) h1)]; exact h2, h3, h3', RepKs.less sub (RepKs.ext x E.owl P.sal (fun _ => .inl) h4), h5⟩
  · rw [upd_ne (Ne.symm nsa.1)]; exact P.sa
  · rw [upd_ne (Ne.symm nsa.2)]; exact P.sb
/-- .. a list -/
theorem nx_ol {i e : Nat} {a : Addr} {xs ds : List D} {vs : List V} (E : RepEnv g er μ.ec H ρ σ) (P : HpOk g er H μ) (h : ρ[i]? = some (SV.ol e xs)) (hi : σ[i]? = some (some (V.ref a))) (r : RepDs g er μ.ec H (Ow ρ σ) vs ds) : Nx g σ er H ρ μ er (upd H a (.lst vs)) (ρ.set i (.ol e ds)) μ := by
  obtain ⟨a', vs0, h1, h2, h3, h4, h5⟩ := E.ol i e xs h
  rw [hi] at h1; cases h1
  exact nx_mut E P (.inl ⟨_, _, h⟩) hi rfl ⟨a, vs, rfl, upd_same, h3, RepDs.ext (ext_mut ⟨i, .inl ⟨_, _, h⟩, hi⟩) E.owl P.sal (fun _ => .inl) r, h5⟩
theorem nx_od {i e : Nat} {a : Addr} {xs ds : List (Key × D)} {vs : List (Key × V)} (E : RepEnv g er μ.ec H ρ σ) (P : HpOk g er H μ) (h : ρ[i]? = some (SV.od e xs)) (hi : σ[i]? = some (some (V.ref a))) (nd : (vs.map (·.1)).Nodup) (r : RepKs g er μ.ec H (Ow ρ σ) vs ds) : Nx g σ er H ρ μ er (upd H a (.dK vs)) (ρ.set i (.od e ds)) μ := by
  obtain ⟨a', vs0, h1, h2, h3, h4, h5, h6⟩ := E.od i e xs h
  rw [hi] at h1; cases h1
  exact nx_mut E P (.inr ⟨_, _, h⟩) hi rfl ⟨a, vs, rfl, upd_same, h3, nd, RepKs.ext (ext_mut ⟨i, .inr ⟨_, _, h⟩, hi⟩) E.owl P.sal (fun _ => .inl) r, h6⟩

/-! ### methods by values -/
def RunM (X : Cx) (id : String) : V → List V → Hp → VK → Prop := fun x xs H Q => ∀ (pins : List (Addr × Obj)) (s : Shared) (σ : St) (v : Value) (us : List Value), Inv X pins σ H s → RelV x v → Vals xs us → wpAny (model X.prog X.w) X.A (call (.builtin id) (v :: us)) (EP X pins σ Q) X.xe s
theorem mtR {id : String} : MtR X id (RunM X id) := fun pins s σ H x xs v us Q I rx rs h => h pins s σ v us I rx rs
theorem RunM.of {id : String} {r : V → List V → Hp → VK → Prop} {x : V} {xs : List V} {Q : VK} (h : MtR X id r) (q : r x xs H Q) : RunM X id x xs H Q := fun pins s σ v us I rx rs => h pins s σ H x xs v us Q I rx rs q
def tyOf (d : D) (T : String) : Bool := match d, T with
  | .str _, "str" => true
  | .lst _ _, "list" => true
  | .dic _ _, "dict" => true
  | _, _ => false
theorem tyV_of {v : V} {d : D} {T : String} (h : RepQ g er c H ow v d) (e : tyOf d T = true) (hd : T ≠ "dict") : tyV X.K T v H := by
  unfold tyOf at e
  split at e
  · cases q_str h; rfl
  · obtain ⟨a, vs, rfl, h1, r⟩ := q_lst h
    exact .inl ⟨rfl, vs, .of h1⟩
  · exact absurd rfl hd
  · cases e
/-- o.m(..), o any value of the type T -/
def evM (T : String) (k : Nat → D → List D → Option D) (fo : Ro → Mu → Rs D) (fa : Ro → Mu → Rs (List D)) : Ro → Mu → Rs D := fun ρ μ => (fo ρ μ).bind fun x ρ1 μ1 => match rsv ρ1 x with
  | some y => if tyOf y T then (fa ρ1 μ1).bind fun ds ρ2 μ2 => match rsv ρ2 x, rsvs ρ2 ds with
      | some y2, some xs => ret (k μ2.ec y2 xs) ρ2 μ2
      | _, _ => .no
    else .no
  | none => .no
def MtE (X : Cx) (id : String) (k : Nat → D → List D → Option D) : Prop := ∀ (g : Gd) (W : WX) (σ : St) (er : Er) (H : Hp) (ρ : Ro) (μ : Mu) (v : V) (vs : List V) (x : D) (ds : List D) (d : D) (Q : VK), X.K = g.K → RepEnv g er μ.ec H ρ σ → HpOk g er H μ → RepQ g er μ.ec H (Ow ρ σ) v x → RepQs g er μ.ec H (Ow ρ σ) vs ds →
  k μ.ec x ds = some d → Den g W σ er H ρ μ (.ok d ρ μ) Q → RunM X id v vs H Q
theorem OkE.meth {T id : String} {name : Str} {o e : Expr} {es : List Expr} {apos cpos : Pos} {k : Nat → D → List D → Option D} {fo : Ro → Mu → Rs D} {fa : Ro → Mu → Rs (List D)} (pa : PlainAttrs T) (slot : Slot T name id) (hty : typeOf (.builtin id) = pure (.type "method_descriptor")) (hm : MtE X id k) (hd : T ≠ "dict") (hK : X.K = g.K) (O : OkE g X o fo) (Oa : OkA g X (e :: es) fa)
    (hbase : attributeBase o name X.env (eval o X.env) = eval o X.env := by rfl)
    (hfew : ((backTo cpos (starEach (e :: es) X.env)).all (fun x => !x.1) && (backToKw cpos (keywordEach [] X.env)).all (fun x => x.1.isSome)
      && decide ((e :: es).length + ([] : List Keyword).length + (if ([] : List Keyword).isEmpty then 0 else 1) < 30)) = true := by rfl)
    (hline : (apos.endLine == cpos.line) = true := by rfl) (hs : starEach (e :: es) X.env = (false, eval e X.env) :: starEach es X.env := by rfl) (hplain : (backTo cpos (starEach es X.env)).any (·.1) = false := by rfl) : OkE g X (.Call (.Attribute o name apos) (e :: es) [] cpos) (evM T k fo fa) := by
  intro av W σ er H ρ μ Q tk E P h
  refine .of (pe_bm pa slot hty mtR peR paR hbase hfew hline hs hplain) (O av W σ er H ρ μ _ tk E P (DenG.e (h.toG.bind fun x ρ1 μ1 H1 er1 _ n1 h1 v r1 => ?_)))
  cases e1 : rsv ρ1 x with
  | none => rw [e1] at h1; exact h1.elim
  | some y =>
    simp only [e1] at h1
    split at h1
    · rename_i ht
      refine ⟨tyV_of (rsv_ok n1.env r1 e1) ht hd, Oa av W σ er1 H1 ρ1 μ1 _ tk n1.env n1.hp (DenG.a (h1.bind fun ds ρ2 μ2 H2 er2 _ n2 h2 vs rs => ?_))⟩
      cases e2 : rsv ρ2 x with
      | none => simp only [e2] at h2; exact h2.elim
      | some y2 =>
        cases e3 : rsvs ρ2 ds with
        | none => simp only [e2, e3] at h2; exact h2.elim
        | some xs =>
          simp only [e2, e3] at h2
          cases e4 : k μ2.ec y2 xs with
          | none => simp only [e4] at h2; exact h2.elim
          | some d =>
            simp only [e4] at h2
            exact hm (g.at av) W σ er2 H2 ρ2 μ2 v vs y2 xs d Q hK n2.env n2.hp (rsv_ok n2.env (r1.nx n2 n1.env n1.hp) e2) (rsvs_ok n2.env rs e3) e4 h2.e
    · exact h1.elim

/-! ### an own list written by a method -/
def MtW (X : Cx) (id : String) (k : List D → List D → Option (List D × D)) : Prop := ∀ (g : Gd) (W : WX) (σ : St) (er : Er) (H : Hp) (ρ : Ro) (μ : Mu) (i e : Nat) (a : Addr) (us vs : List V) (xs ds ys : List D) (d : D) (Q : VK), X.K = g.K → RepEnv g er μ.ec H ρ σ → HpOk g er H μ → H a = some (.lst us) → RepDs g er μ.ec H (Ow ρ σ) us xs → RepDs g er μ.ec H (Ow ρ σ) vs ds →
  k xs ds = some (ys, d) → (∀ (v : V) (ws : List V), RepDs g er μ.ec H (Ow ρ σ) ws ys → RepD g er μ.ec H (Ow ρ σ) v d → Q v (upd H a (.lst ws))) → RunM X id (.ref a) vs H Q
def evW (i : Nat) (k : List D → List D → Option (List D × D)) (fa : Ro → Mu → Rs (List D)) : Ro → Mu → Rs D := fun ρ μ => match ρ[i]? with
  | some (.ol _ _) => (fa ρ μ).bind fun ds ρ1 μ1 => (datsR ds ρ1 μ1).bind fun ds ρ2 μ2 => match ρ2[i]? with
    | some (.ol e xs) => match k xs ds with
      | some (ys, d) => .ok d (ρ2.set i (.ol e ys)) μ2
      | none => .no
    | _ => .no
  | _ => .no
theorem own_at {i : Nat} {x : Str} {pos : Pos} {a : Addr} {Q : VK} (hN : X.N[i]? = some x) (hv : Vis X.env.scope x) (hd : (x == ("__debug__" : Str)) = false) (hcd : (x == ("__classdict__" : Str)) = false) (hi : σ[i]? = some (some (V.ref a))) (q : Q (.ref a) H) : RunE X (.Name x pos) σ H Q :=
  .of (pe_var (i := i) hN hv hd hcd) ⟨_, hi, q⟩
theorem OkE.mut {i : Nat} {x : Str} {id : String} {name : Str} {e : Expr} {es : List Expr} {npos apos cpos : Pos} {k : List D → List D → Option (List D × D)} {fa : Ro → Mu → Rs (List D)} (slot : Slot "list" name id) (hty : typeOf (.builtin id) = pure (.type "method_descriptor")) (hm : MtW X id k) (hK : X.K = g.K)
    (hN : X.N[i]? = some x) (hv : Vis X.env.scope x) (hd : (x == ("__debug__" : Str)) = false) (hcd : (x == ("__classdict__" : Str)) = false) (Oa : OkA g X (e :: es) fa)
    (hbase : attributeBase (.Name x npos) name X.env (eval (.Name x npos) X.env) = eval (.Name x npos) X.env := by rfl)
    (hfew : ((backTo cpos (starEach (e :: es) X.env)).all (fun x => !x.1) && (backToKw cpos (keywordEach [] X.env)).all (fun x => x.1.isSome)
      && decide ((e :: es).length + ([] : List Keyword).length + (if ([] : List Keyword).isEmpty then 0 else 1) < 30)) = true := by rfl)
    (hline : (apos.endLine == cpos.line) = true := by rfl) (hs : starEach (e :: es) X.env = (false, eval e X.env) :: starEach es X.env := by rfl) (hplain : (backTo cpos (starEach es X.env)).any (·.1) = false := by rfl) : OkE g X (.Call (.Attribute (.Name x npos) name apos) (e :: es) [] cpos) (evW i k fa) := by
  intro av W σ er H ρ μ Q tk E P h
  unfold evW at h
  cases q : ρ[i]? with
  | none => simp only [q] at h; exact h.elim
  | some sv =>
    cases sv with
    | ol e0 xs0 =>
      simp only [q] at h
      obtain ⟨a, us0, hi, h0, _⟩ := E.ol i e0 xs0 q
      refine .of (pe_bm PySem.F.plainAttrs_list slot hty mtR peR paR hbase hfew hline hs hplain) (own_at hN hv hd hcd hi ⟨.inl ⟨rfl, us0, .of h0⟩, runA Oa tk E P h.toG fun ds ρ1 μ1 vs H1 er1 E1 P1 r1 h1 => ?_⟩)
      obtain ⟨ds', ρ2, E2, r2, h2⟩ := h1.dats E1 P1 r1
      cases q2 : ρ2[i]? with
      | none => simp only [q2] at h2; exact h2.elim
      | some sv2 =>
        cases sv2 with
        | ol e1 xs =>
          simp only [q2] at h2
          cases e2 : k xs ds' with
          | none => simp only [e2] at h2; exact h2.elim
          | some p =>
            obtain ⟨ys, d⟩ := p
            simp only [e2] at h2
            obtain ⟨a', us, hi', h1', h3, h4, _⟩ := E2.ol i e1 xs q2
            rw [hi] at hi'; cases hi'
            refine hm (g.at av) W σ er1 H1 ρ2 μ1 i e1 a us vs xs ds' ys d Q hK E2 P1 h1' h4 r2 e2 fun v ws rw rv => ?_
            have n := nx_ol E2 P1 q2 hi rw
            exact h2.ok' n v (.d (rv.nx n E2 P1))
        | _ => simp only [q2] at h2; exact h2.elim
    | _ => simp only [q] at h; exact h.elim
def kAppend : List D → List D → Option (List D × D)
  | xs, [d] => if decide (xs.length < sizeLine) then some (xs ++ [d], .non) else none
  | _, _ => none
theorem mw_append : MtW X "list.append" kAppend := by
  intro g W σ er H ρ μ i e a us vs xs ds ys d Q hK E P h1 r1 r2 hk q
  unfold kAppend at hk
  split at hk
  · split at hk
    · rename_i hz
      cases hk
      cases r2 with | cons r2 r3 =>
      cases r3
      exact .of mt_append ⟨a, us, _, rfl, rfl, h1, by rw [r1.length]; exact of_decide_eq_true hz, q _ _ (r1.snoc r2) .non⟩
    · cases hk
  · cases hk
def kExtend : List D → List D → Option (List D × D)
  | xs, [.lst _ ys] => if szB (xs.length + ys.length) then some (xs ++ ys, .non) else none
  | _, _ => none
theorem mw_extend : MtW X "list.extend" kExtend := by
  intro g W σ er H ρ μ i e a us vs xs ds ys d Q hK E P h1 r1 r2 hk q
  unfold kExtend at hk
  split at hk
  · split at hk
    · rename_i hz
      cases hk
      cases r2 with | cons r2 r3 =>
      cases r3
      cases r2 with | lst r4 r5 r6 r7 =>
      exact .of mt_extend ⟨a, _, us, _, rfl, rfl, h1, r4, by rw [r1.length, r7.length]; exact szB_ok hz, q _ _ (r1.append r7) .non⟩
    · cases hk
  · cases hk
def kPopAt : List D → List D → Option (List D × D)
  | xs, [.int i] => if decide (-(2 ^ 63) ≤ i ∧ i < 2 ^ 63) then match seqIndex? i xs.length with
      | some k => match xs[k]? with
        | some d => some (xs.eraseIdx k, d)
        | none => none
      | none => none
    else none
  | _, _ => none
theorem mw_popAt : MtW X "list.pop" kPopAt := by
  intro g W σ er H ρ μ i e a us vs xs ds ys d Q hK E P h1 r1 r2 hk q
  unfold kPopAt at hk
  split at hk
  · split at hk
    · rename_i hz
      split at hk
      · rename_i k e1
        split at hk
        · rename_i d' e2
          cases hk
          cases r2 with | cons r2 r3 =>
          cases r3
          cases r2
          obtain ⟨v, e3, e4⟩ := r1.get e2
          obtain ⟨z1, z2⟩ := of_decide_eq_true hz
          exact .of mt_popAt ⟨a, us, _, k, v, rfl, rfl, h1, z1, z2, by rw [r1.length]; exact e1, e3, q _ _ (r1.eraseIdx k) e4⟩
        · cases hk
      · cases hk
    · cases hk
  · cases hk
end
end GW

set_option maxHeartbeats 1000000
namespace GW
open PySem PySem.Spec PyProof.Rows L2
/-- how a block ends -/
inductive Fl where
  | nx | rt (d : D)
/-- what a block's result asks -/
def DenS (g : Gd) (W : WX) (σ : St) (er : Er) (H : Hp) (ρ : Ro) (μ : Mu) (r : Rs Fl) (Z : Ends) : Prop := match r with
  | .ok .nx ρ' μ' => ∀ σ' H' er', NxS g σ er H ρ μ σ' er' H' ρ' μ' → Z.nx σ' H'
  | .ok (.rt d) ρ' μ' => ∀ v σ' H' er', NxS g σ er H ρ μ σ' er' H' ρ' μ' → RepD g er' μ'.ec H' (Ow ρ' σ') v d → Z.rt v H'
  | .ex x fs ρ' μ' => ∀ cls dd σ' H' er', NxS g σ er H ρ μ σ' er' H' ρ' μ' → ExRep g er' μ'.ec (Ow ρ' σ') H' x fs cls dd → W cls (some dd) σ' H'
  | .no => False
def OkS (g : Gd) (X : Cx) (st : Stmt) (f : Ro → Mu → Rs Fl) : Prop := ∀ (av : Addr → Prop) (W : WX) (σ : St) (er : Er) (H : Hp) (ρ : Ro) (μ : Mu) (Z : Ends), Takes X W → RepEnv (g.at av) er μ.ec H ρ σ → HpOk (g.at av) er H μ → DenS (g.at av) W σ er H ρ μ (f ρ μ) Z → RunS X st Z σ H
def OkSs (g : Gd) (X : Cx) (st : List Stmt) (f : Ro → Mu → Rs Fl) : Prop := ∀ (av : Addr → Prop) (W : WX) (σ : St) (er : Er) (H : Hp) (ρ : Ro) (μ : Mu) (Z : Ends), Takes X W → RepEnv (g.at av) er μ.ec H ρ σ → HpOk (g.at av) er H μ → DenS (g.at av) W σ er H ρ μ (f ρ μ) Z → RunSs X st Z σ H
section
variable {g : Gd} {X : Cx} {W : WX} {σ : St} {er : Er} {H : Hp} {ρ : Ro} {μ : Mu} {c : Nat} {ow ow' : Addr → Prop} {av : Addr → Prop} {bl : List Str} {n : Nat} {N : List Str} {sc : Scope} {α β : Type}
theorem DenS.nxs {σ1 : St} {er1 : Er} {H1 : Hp} {ρ1 : Ro} {μ1 : Mu} {r : Rs Fl} {Z : Ends} (m : NxS g σ er H ρ μ σ1 er1 H1 ρ1 μ1) (h : DenS g W σ er H ρ μ r Z) : DenS g W σ1 er1 H1 ρ1 μ1 r Z := by
  cases r with
  | ok d ρ' μ' =>
    cases d with
    | nx => exact fun σ' H' er' k => h σ' H' er' (m.trans k)
    | rt d => exact fun v σ' H' er' k q => h v σ' H' er' (m.trans k) q
  | ex x fs ρ' μ' => exact fun cls dd σ' H' er' k q => h cls dd σ' H' er' (m.trans k) q
  | no => exact h
theorem DenS.nx {er1 : Er} {H1 : Hp} {ρ1 : Ro} {μ1 : Mu} {r : Rs Fl} {Z : Ends} (m : Nx g σ er H ρ μ er1 H1 ρ1 μ1) (h : DenS g W σ er H ρ μ r Z) : DenS g W σ er1 H1 ρ1 μ1 r Z := DenS.nxs m.s h
/-- an expression first -/
theorem DenS.bind {r : Rs α} {k : α → Ro → Mu → Rs Fl} {Z : Ends} (h : DenS g W σ er H ρ μ (r.bind k) Z) {J : α → Ro → Mu → Hp → Er → Prop}
    (q : ∀ a ρ1 μ1 H1 er1, r = .ok a ρ1 μ1 → Nx g σ er H ρ μ er1 H1 ρ1 μ1 → DenS g W σ er1 H1 ρ1 μ1 (k a ρ1 μ1) Z → J a ρ1 μ1 H1 er1) : DenG g W σ er H ρ μ r J := by
  cases r with
  | ok a ρ1 μ1 => exact fun H1 er1 m => q a ρ1 μ1 H1 er1 rfl m (DenS.nx m h)
  | ex x fs ρ' μ' => exact fun cls dd H' er' m q => h cls dd σ H' er' m.s q
  | no => exact h
theorem runES {e : Expr} {f : Ro → Mu → Rs D} (O : OkE g X e f) (tk : Takes X W) (E : RepEnv (g.at av) er μ.ec H ρ σ) (P : HpOk (g.at av) er H μ) {k : D → Ro → Mu → Rs Fl} {Z : Ends} {R : VK}
    (h : DenS (g.at av) W σ er H ρ μ ((f ρ μ).bind k) Z)
    (q : ∀ d ρ1 μ1 v H1 er1, RepEnv (g.at av) er1 μ1.ec H1 ρ1 σ → HpOk (g.at av) er1 H1 μ1 → RepO (g.at av) er1 μ1.ec H1 ρ1 σ v d → DenS (g.at av) W σ er1 H1 ρ1 μ1 (k d ρ1 μ1) Z → R v H1) : RunE X e σ H R :=
  O av W σ er H ρ μ R tk E P (DenG.e (h.bind fun d ρ1 μ1 H1 er1 _ n1 h1 v hv => q d ρ1 μ1 v H1 er1 n1.env n1.hp hv h1))
theorem runTS {e : Expr} {f : Ro → Mu → Rs Bool} (O : OkT g X e f) (tk : Takes X W) (E : RepEnv (g.at av) er μ.ec H ρ σ) (P : HpOk (g.at av) er H μ) {k : Bool → Ro → Mu → Rs Fl} {Z : Ends} {R : Bool → Hp → Prop}
    (h : DenS (g.at av) W σ er H ρ μ ((f ρ μ).bind k) Z)
    (q : ∀ d ρ1 μ1 H1 er1, RepEnv (g.at av) er1 μ1.ec H1 ρ1 σ → HpOk (g.at av) er1 H1 μ1 → DenS (g.at av) W σ er1 H1 ρ1 μ1 (k d ρ1 μ1) Z → R d H1) : RunT X e σ H R :=
  O av W σ er H ρ μ R tk E P (DenG.t (h.bind fun d ρ1 μ1 H1 er1 _ n1 h1 => q d ρ1 μ1 H1 er1 n1.env n1.hp h1))
theorem DenS.dat {d : D} {v : V} {k : D → Ro → Mu → Rs Fl} {Z : Ends} (E : RepEnv g er μ.ec H ρ σ) (P : HpOk g er H μ) (r : RepO g er μ.ec H ρ σ v d) (h : DenS g W σ er H ρ μ ((datR d ρ μ).bind k) Z) :
    ∃ d' ρ', RepEnv g er μ.ec H ρ' σ ∧ RepD g er μ.ec H (Ow ρ' σ) v d' ∧ DenS g W σ er H ρ' μ (k d' ρ' μ) Z := by
  unfold datR at h
  cases e : fz d ρ with
  | none => rw [e] at h; exact h.elim
  | some p =>
    obtain ⟨ds', ρ'⟩ := p
    rw [e] at h
    obtain ⟨m, r'⟩ := fz_ok E P r e
    exact ⟨ds', ρ', m.env, r', DenS.nx m h⟩

/-! ### blocks -/
def sNil : Ro → Mu → Rs Fl := fun ρ μ => .ok .nx ρ μ
def sCons (f r : Ro → Mu → Rs Fl) : Ro → Mu → Rs Fl := fun ρ μ => (f ρ μ).bind fun o ρ1 μ1 => match o with
  | .nx => r ρ1 μ1
  | .rt d => .ok (.rt d) ρ1 μ1
theorem OkSs.nil : OkSs g X [] sNil := fun av W σ er H ρ μ Z tk E P h => .of pss_nil (h σ H er (.refl E P))
theorem OkSs.cons {st : Stmt} {rest : List Stmt} {f r : Ro → Mu → Rs Fl} (O : OkS g X st f) (R : OkSs g X rest r) : OkSs g X (st :: rest) (sCons f r) := by
  intro av W σ er H ρ μ Z tk E P h
  refine .of (pss_cons psR pssR) (O av W σ er H ρ μ { Z with nx := RunSs X rest Z } tk E P ?_)
  unfold sCons at h
  cases e : f ρ μ with
  | ok o ρ1 μ1 =>
    rw [e] at h
    cases o with
    | nx => exact fun σ1 H1 er1 m => R av W σ1 er1 H1 ρ1 μ1 Z tk m.env m.hp (DenS.nxs m h)
    | rt d => exact h
  | ex x fs ρ' μ' => rw [e] at h; exact h
  | no => rw [e] at h; exact h
theorem OkSs.one {st : Stmt} {f : Ro → Mu → Rs Fl} (O : OkS g X st f) : OkSs g X [st] f := fun av W σ er H ρ μ Z tk E P h => .of (pss_one psR) (O av W σ er H ρ μ Z tk E P h)
def sExpr (f : Ro → Mu → Rs D) : Ro → Mu → Rs Fl := fun ρ μ => (f ρ μ).bind fun _ ρ1 μ1 => .ok .nx ρ1 μ1
theorem OkS.expr {e : Expr} {f : Ro → Mu → Rs D} {pos : Pos} (O : OkE g X e f) (hs : swapsWith e none pos.line X.env = pure false := by rfl) : OkS g X (.Expr e pos) (sExpr f) := by
  intro av W σ er H ρ μ Z tk E P h
  exact .of (ps_expr peR hs) (runES O tk E P h fun d ρ1 μ1 v H1 er1 E1 P1 r1 h1 => h1 σ H1 er1 (.refl E1 P1))
def sRet (f : Ro → Mu → Rs D) : Ro → Mu → Rs Fl := fun ρ μ => (f ρ μ).bind fun d ρ1 μ1 => (datR d ρ1 μ1).bind fun d ρ2 μ2 => .ok (.rt d) ρ2 μ2
theorem OkS.ret {e : Expr} {f : Ro → Mu → Rs D} {pos : Pos} (O : OkE g X e f) : OkS g X (.Return (some e) pos) (sRet f) := by
  intro av W σ er H ρ μ Z tk E P h
  refine .of (ps_ret peR) (runES O tk E P h fun d ρ1 μ1 v H1 er1 E1 P1 r1 h1 => ?_)
  obtain ⟨d', ρ2, E2, r2, h2⟩ := h1.dat E1 P1 r1
  exact h2 v σ H1 er1 (.refl E2 P1) r2
def sIf (t : Ro → Mu → Rs Bool) (a b : Ro → Mu → Rs Fl) : Ro → Mu → Rs Fl := fun ρ μ => (t ρ μ).bind fun c ρ1 μ1 => if c then a ρ1 μ1 else b ρ1 μ1
theorem OkS.if {c : Expr} {a b : List Stmt} {t : Ro → Mu → Rs Bool} {fa fb : Ro → Mu → Rs Fl} {pos : Pos} (Oc : OkT g X c t) (Oa : OkSs g X a fa) (Ob : OkSs g X b fb) : OkS g X (.If c a b pos) (sIf t fa fb) := by
  intro av W σ er H ρ μ Z tk E P h
  refine .of (ps_if ptR pssR pssR) (runTS (R := fun b' H1 => if b' = true then RunSs X a Z σ H1 else RunSs X b Z σ H1) Oc tk E P h fun d ρ1 μ1 H1 er1 E1 P1 h1 => ?_)
  cases d with
  | true => exact iteT (Oa av W σ er1 H1 ρ1 μ1 Z tk E1 P1 h1)
  | false => exact iteF (Ob av W σ er1 H1 ρ1 μ1 Z tk E1 P1 h1)

/-! ### assignments -/
/-- a frame of a def -/
structure CxS (X : Cx) : Prop where
  fn : ∀ x, X.fn x = true
  own : PassesOwn (model X.prog X.w) X.A X.env X.xe
theorem Cxt.loc {x : Str} (C : Cxt g bl n N sc X) (h : Loc sc x) : Loc X.env.scope x := by rw [C.hsc]; exact h
theorem Cxt.at {x : Str} {i : Nat} (C : Cxt g bl n N sc X) (h : N[i]? = some x) : X.N[i]? = some x := by rw [C.hN]; exact h
theorem Cxt.ndup (C : Cxt g bl n N sc X) : X.N.Nodup := by rw [C.hN]; exact C.nd
def sSet (i : Nat) (f : Ro → Mu → Rs D) : Ro → Mu → Rs Fl := fun ρ μ => (f ρ μ).bind fun d ρ1 μ1 => (datR d ρ1 μ1).bind fun d ρ2 μ2 => .ok .nx (ρ2.set i (.val d)) μ2
theorem OkS.set {i : Nat} {x : Str} {e : Expr} {f : Ro → Mu → Rs D} {pos pos' : Pos} (C : Cxt g bl n N sc X) (S : CxS X) (hi : N[i]? = some x) (hl : Loc sc x) (O : OkE g X e f) (hs : swapsWith e (some (.Name x pos')) pos.line X.env = pure false := by rfl) : OkS g X (.Assign [.Name x pos'] e pos) (sSet i f) := by
  intro av W σ er H ρ μ Z tk E P h
  refine .of (ps_set C.ndup (C.at hi) (C.loc hl) peR hs (.inl (S.fn x))) (runES O tk E P h fun d ρ1 μ1 v H1 er1 E1 P1 r1 h1 => ?_)
  obtain ⟨d', ρ2, E2, r2, h2⟩ := h1.dat E1 P1 r1
  exact h2 _ H1 er1 (nxs_val E2 P1 (.d r2))
def NV.sv : NV → SV
  | .nl c xs => .ol c xs
  | .nd c xs => .od c xs
/-- a new object becomes the frame's own at i -/
theorem nxs_new {H0 : Hp} {er0 : Er} {ρ0 : Ro} {μ0 : Mu} {σ0 : St} {i : Nat} {p : Addr} {nv : NV} (m : NxS g σ0 er0 H0 ρ0 μ0 σ er H ρ μ) (w : NewAt g σ er H ρ μ p nv) (hp : H0 p = none) : NxS g σ0 er0 H0 ρ0 μ0 (σ.set i (some (.ref p))) er H (ρ.set i (nv.sv)) μ := by
  have hsv : isOwn (nv.sv) = true := by cases nv <;> rfl
  have fr : ∀ a, H a ≠ none → Free (g.and p) (Ow ρ σ) a → Free ((g.and p).at g.av) (Ow (ρ.set i (nv.sv)) (σ.set i (some (.ref p)))) a := fun a _ f => ⟨fun z => f.1 (.inl z), fun z => by
    rcases ow_set z with ⟨j, _, h1, h2⟩ | ⟨_, h2⟩
    · exact f.2.1 ⟨j, h1, h2⟩
    · cases h2; exact f.1 (.inr rfl), f.2.2⟩
  have np : ∀ j a, isOw ρ j → σ[j]? = some (some (V.ref a)) → p ≠ a := fun j a h1 h2 z => by
    subst z
    rcases h1 with ⟨e', xs, q⟩ | ⟨e', xs, q⟩
    · obtain ⟨a', vs, h3, _, _, _, h5, _⟩ := w.env.ol j e' xs q
      rw [h2] at h3; cases h3
      exact h5 (.inr rfl)
    · obtain ⟨a', vs, h3, _, _, _, _, h5, _⟩ := w.env.od j e' xs q
      rw [h2] at h3; cases h3
      exact h5 (.inr rfl)
  have E' : RepEnv ((g.and p).at g.av) er μ.ec H (ρ.set i (nv.sv)) (σ.set i (some (.ref p))) := by
    refine RepEnv.put w.env fr (fun a z => .inl z) ?_ (fun _ j a hj h1 h2 z => ?_)
    · cases nv with
      | nl e xs =>
        obtain ⟨vs, h1, h2⟩ := w.at_
        exact ⟨p, vs, rfl, h1, w.era, RepDs.cv fr h2, w.av, w.sa, w.sb⟩
      | nd e xs =>
        obtain ⟨vs, h1, h2, h3⟩ := w.at_
        exact ⟨p, vs, rfl, h1, w.era, h2, RepKs.cv fr h3, w.av, w.sa, w.sb⟩
    · cases z; exact np j _ h1 h2 rfl
  refine ⟨m.x, E', ?_, fun a z => ?_⟩
  · exact m.hp
  · rcases ow_set z with ⟨j, _, h1, h2⟩ | ⟨_, h2⟩
    · exact m.ow a ⟨j, h1, h2⟩
    · cases h2; exact .inr hp
def sSetN (i : Nat) (f : Ro → Mu → Rs NV) : Ro → Mu → Rs Fl := fun ρ μ => (f ρ μ).bind fun nv ρ1 μ1 => .ok .nx (ρ1.set i nv.sv) μ1
theorem OkS.setN {i : Nat} {x : Str} {e : Expr} {f : Ro → Mu → Rs NV} {pos pos' : Pos} (C : Cxt g bl n N sc X) (S : CxS X) (hi : N[i]? = some x) (hl : Loc sc x) (O : OkN g X e f) (hs : swapsWith e (some (.Name x pos')) pos.line X.env = pure false := by rfl) : OkS g X (.Assign [.Name x pos'] e pos) (sSetN i f) := by
  intro av W σ er H ρ μ Z tk E P h
  refine .of (ps_set C.ndup (C.at hi) (C.loc hl) peR hs (.inl (S.fn x))) (O av W σ er H ρ μ _ tk E P ?_)
  unfold sSetN at h
  cases e' : f ρ μ with
  | ok nv ρ1 μ1 =>
    rw [e'] at h
    exact fun H1 er1 m p w hp => h _ H1 er1 (nxs_new m.s w hp)
  | ex x fs ρ' μ' => rw [e'] at h; exact fun cls dd H' er' m q => h cls dd σ H' er' m.s q
  | no => rw [e'] at h; exact h

/-! ### a tuple taken apart -/
def setVals : List Nat → List D → Ro → Option Ro
  | [], [], ρ => some ρ
  | i :: is, d :: ds, ρ => setVals is ds (ρ.set i (.val d))
  | _, _, _ => none
/-- names as targets -/
inductive NmTs (N : List Str) (sc : Scope) : List Expr → List Nat → Prop
  | nil : NmTs N sc [] []
  | cons {x : Str} {i : Nat} {p : Pos} {es : List Expr} {is : List Nat} (hi : N[i]? = some x) (hl : Loc sc x) (r : NmTs N sc es is) : NmTs N sc (.Name x p :: es) (i :: is)
def RunGs (X : Cx) (ts : List Expr) : TGs := fun vs σ H Q => ∀ (pins : List (Addr × Obj)) (s : Shared) (us : List Value), Inv X pins σ H s → Vals vs us →
  wpAny (model X.prog X.w) X.A (assignInOrder ((assignEach ts X.env).map (·.2)) us) (fun _ s' => ∃ σ' H', Inv X pins σ' H' s' ∧ Q σ' H') X.xe s
theorem pgsT {is : List Nat} {es : List Expr} (C : Cxt g bl n N sc X) (S : CxS X) (h : NmTs N sc es is) : ∃ t : TGs, PGs X es t ∧ ∀ (σ : St) (er : Er) (H : Hp) (ρ ρ' : Ro) (μ : Mu) (vs : List V) (ds : List D) (Q : St → Hp → Prop), RepEnv g er μ.ec H ρ σ → HpOk g er H μ → RepDs g er μ.ec H (Ow ρ σ) vs ds → setVals is ds ρ = some ρ' →
    (∀ σ', NxS g σ er H ρ μ σ' er H ρ' μ → Q σ' H) → t vs σ H Q := by
  induction h with
  | nil =>
    refine ⟨_, pgs_nil, fun σ er H ρ ρ' μ vs ds Q E P r e q => ?_⟩
    cases r with
    | nil => cases e; exact ⟨rfl, q σ (.refl E P)⟩
    | cons h r => cases e
  | @cons x i p es is hi hl r ih =>
    obtain ⟨t, h1, h2⟩ := ih
    refine ⟨_, pgs_cons (pg_name C.ndup (C.at hi) (C.loc hl) (.inl (S.fn x))) h1, fun σ er H ρ ρ' μ vs ds Q E P rr e q => ?_⟩
    cases rr with
    | nil => cases e
    | @cons v d vs ds h rr =>
      have m := nxs_val (i := i) E P (.d h)
      refine ⟨v, vs, rfl, h2 _ er H _ ρ' μ vs ds Q m.env m.hp ?_ e fun σ' m' => q σ' (m.trans m')⟩
      exact RepDs.less (fun a => ow_val rfl) rr
def sUnp (is : List Nat) (f : Ro → Mu → Rs D) : Ro → Mu → Rs Fl := fun ρ μ => (f ρ μ).bind fun d ρ1 μ1 => (datR d ρ1 μ1).bind fun d ρ2 μ2 => match d with
  | .tup ds => match setVals is ds ρ2 with
    | some ρ3 => .ok .nx ρ3 μ2
    | none => .no
  | _ => .no
theorem setVals_len : ∀ {is : List Nat} {ds : List D} {ρ ρ' : Ro}, setVals is ds ρ = some ρ' → is.length = ds.length
  | [], [], _, _, _ => rfl
  | i :: is, d :: ds, ρ, ρ', h => congrArg (· + 1) (setVals_len (is := is) (ds := ds) h)
  | [], d :: ds, _, _, h => by cases h
  | i :: is, [], _, _, h => by cases h
theorem OkS.unp {is : List Nat} {es : List Expr} {e : Expr} {f : Ro → Mu → Rs D} {k : Nat} {pos pos' : Pos} (C : Cxt g bl n N sc X) (S : CxS X) (T : NmTs N sc es is) (O : OkE g X e f)
    (hn : (assignEach es X.env).length = is.length := by rfl) (hst : (assignEach es X.env).findIdx? (·.1) = none := by rfl)
    (hs : swapsWithSole [.Tuple es k pos'] e pos.line X.env = pure false := by rfl) (hw : swappedStores [.Tuple es k pos'] e X.env = pure none := by rfl)
    (h1 : (assignEach [.Tuple es k pos'] X.env).map (·.2) = [assign (.Tuple es k pos') X.env] := by rfl) : OkS g X (.Assign [.Tuple es k pos'] e pos) (sUnp is f) := by
  intro av W σ er H ρ μ Z tk E P h
  obtain ⟨t, p1, p2⟩ := pgsT (g := g.at av) (X := X) (bl := bl) (n := n) (N := N) (sc := sc) ⟨C.hK, C.hm, C.hN, C.hsc, C.calm, C.room, C.nd, C.hbl⟩ S T
  refine .of (ps_asg peR (pg_tup C.calm p1 hn hst) hs hw h1) (runES O tk E P h fun d ρ1 μ1 v H1 er1 E1 P1 r1 h1 => ?_)
  obtain ⟨d', ρ2, E2, r2, h2⟩ := h1.dat E1 P1 r1
  cases d' with
  | tup ds =>
    simp only at h2
    cases e3 : setVals is ds ρ2 with
    | none => rw [e3] at h2; exact h2.elim
    | some ρ3 =>
      rw [e3] at h2
      cases r2 with
      | tup hq rr => exact ⟨_, _, rfl, by rw [C.hK]; exact hq, by rw [rr.length, ← setVals_len e3], p2 σ er1 H1 ρ2 ρ3 μ1 _ ds _ E2 P1 rr e3 fun σ' m => h2 σ' H1 er1 m⟩
  | _ => exact h2.elim

/-! ### several names at once -/
theorem ext_av {av1 av2 : Addr → Prop} {er' : Er} {c' : Nat} {H' : Hp} (x : Ext (g.at av1) ow er c H er' c' H') : Ext (g.at av2) ow er c H er' c' H' := ⟨x.same, x.dom, x.ere, x.cc, x.new, x.nfz⟩
theorem RepFs.cv {av' : Addr → Prop} {vs : List (Str × V)} {ds : List (Str × D)} (hf : ∀ a, H a ≠ none → Free g ow a → Free (g.at av') ow' a) (h : RepFs g er c ow H vs ds) : RepFs (g.at av') er c ow' H vs ds := by
  induction h with
  | nil => exact .nil
  | cons h r ih => exact .cons (RepD.cv hf h) ih
theorem ExRep.cv {av' : Addr → Prop} {x : Str} {fs : List (Str × D)} {cls : Value} {dd : Addr} (hf : ∀ a, H a ≠ none → Free g ow a → Free (g.at av') ow' a) (h : ExRep g er c ow H x fs cls dd) : ExRep (g.at av') er c ow' H x fs cls dd := by
  obtain ⟨C, vs, h1, h2, h3, h4⟩ := h
  exact ⟨C, vs, h1, h2, h3, h4.cv hf⟩
/-- with one address less that belongs to others -/
theorem free_and {p : Addr} (a : Addr) (_ : H a ≠ none) (f : Free (g.and p) ow a) : Free ((g.and p).at g.av) ow a := ⟨fun z => f.1 (.inl z), f.2⟩
theorem NxS.and {p : Addr} {σ' : St} {er' : Er} {H' : Hp} {ρ' : Ro} {μ' : Mu} (m : NxS (g.and p) σ er H ρ μ σ' er' H' ρ' μ') : NxS g σ er H ρ μ σ' er' H' ρ' μ' :=
  ⟨ext_av (g := g) (av2 := g.av) m.x, RepEnv.cv (g := g.and p) (av' := g.av) m.env free_and (fun a _ h z => h (.inl z)), HpOk.cv (g := g.and p) (av' := g.av) m.hp (fun a z => m.hp.avs (.inl z)), m.ow⟩
def setAll : List Nat → List V → St → St
  | i :: is, v :: vs, σ => (setAll is vs σ).set i (some v)
  | _, _, σ => σ
def OkP (g : Gd) (X : Cx) (es : List Expr) (is : List Nat) (f : Ro → Mu → Rs Fl) : Prop := ∀ (av : Addr → Prop) (W : WX) (σ : St) (er : Er) (H : Hp) (ρ : Ro) (μ : Mu) (Q : St → Hp → Prop), Takes X W → RepEnv (g.at av) er μ.ec H ρ σ → HpOk (g.at av) er H μ →
  (match f ρ μ with
   | .ok o ρ' μ' => ∀ σ' H' er', NxS (g.at av) σ er H ρ μ σ' er' H' ρ' μ' → Q σ' H'
   | .ex x fs ρ' μ' => ∀ cls dd H' er', NxS (g.at av) σ er H ρ μ σ er' H' ρ' μ' → ExRep (g.at av) er' μ'.ec (Ow ρ' σ) H' x fs cls dd → W cls (some dd) σ H'
   | .no => False) → RunA X es σ H fun vs H1 => vs.length = es.length ∧ Q (setAll is vs σ) H1
theorem OkP.nil : OkP g X [] [] sNil := fun av W σ er H ρ μ Q tk E P h => .of pa_nil ⟨rfl, h σ H er (.refl E P)⟩
def pE (i : Nat) (f : Ro → Mu → Rs D) (r : Ro → Mu → Rs Fl) : Ro → Mu → Rs Fl := fun ρ μ => (f ρ μ).bind fun d ρ1 μ1 => (datR d ρ1 μ1).bind fun d ρ2 μ2 => (r ρ2 μ2).bind fun _ ρ3 μ3 => .ok .nx (ρ3.set i (.val d)) μ3
def pN (i : Nat) (f : Ro → Mu → Rs NV) (r : Ro → Mu → Rs Fl) : Ro → Mu → Rs Fl := fun ρ μ => (f ρ μ).bind fun nv ρ1 μ1 => (r ρ1 μ1).bind fun _ ρ3 μ3 => .ok .nx (ρ3.set i nv.sv) μ3
theorem RepD.nxs {σ' : St} {er' : Er} {H' : Hp} {ρ' : Ro} {μ' : Mu} {v : V} {d : D} (n : NxS g σ er H ρ μ σ' er' H' ρ' μ') (E : RepEnv g er μ.ec H ρ σ) (P : HpOk g er H μ) (h : RepD g er μ.ec H (Ow ρ σ) v d) : RepD g er' μ'.ec H' (Ow ρ' σ') v d := RepD.ext n.x E.owl P.sal n.ow h
theorem OkP.consE {i : Nat} {e : Expr} {es : List Expr} {is : List Nat} {f : Ro → Mu → Rs D} {r : Ro → Mu → Rs Fl} (O : OkE g X e f) (R : OkP g X es is r) (hs : starEach (e :: es) X.env = (false, eval e X.env) :: starEach es X.env := by rfl) : OkP g X (e :: es) (i :: is) (pE i f r) := by
  intro av W σ er H ρ μ Q tk E P h
  refine .of (pa_cons peR paR hs) (O av W σ er H ρ μ _ tk E P ?_)
  unfold pE at h
  cases e1 : f ρ μ with
  | no => rw [e1] at h; exact h
  | ex x fs ρ' μ' => rw [e1] at h; exact fun cls dd H' er' m q => h cls dd H' er' m.s q
  | ok d ρ1 μ1 =>
    rw [e1] at h
    intro v H1 er1 m1 hv
    simp only [Rs.bind_ok] at h
    cases e2 : fz d ρ1 with
    | none => unfold datR at h; rw [e2] at h; exact h.elim
    | some p =>
      obtain ⟨d', ρ2⟩ := p
      unfold datR at h
      rw [e2] at h
      simp only [Rs.bind_ok] at h
      obtain ⟨m2, r2⟩ := fz_ok m1.env m1.hp hv e2
      have m12 := m1.trans m2
      have := R av W σ er1 H1 ρ2 μ1 (fun σ' H' => Q (σ'.set i (some v)) H') tk m2.env m2.hp ?_
      · exact fun pos pins s I => thn (this pos pins s I) fun us s' ⟨vs, H', I', rs, hl, q⟩ => ⟨vs, H', I', rs, by rw [List.length_cons, List.length_cons, hl], q⟩
      · cases e3 : r ρ2 μ1 with
        | no => rw [e3] at h; exact h
        | ex x fs ρ' μ' => rw [e3] at h; exact fun cls dd H' er' m q => h cls dd H' er' (m12.s.trans m) q
        | ok o ρ3 μ3 =>
          rw [e3] at h
          exact fun σ3 H3 er3 m3 => h _ H3 er3 ((m12.s.trans m3).trans (nxs_val m3.env m3.hp (.d (r2.nxs m3 m2.env m2.hp))))
theorem OkP.consN {i : Nat} {e : Expr} {es : List Expr} {is : List Nat} {f : Ro → Mu → Rs NV} {r : Ro → Mu → Rs Fl} (O : OkN g X e f) (R : OkP g X es is r) (hs : starEach (e :: es) X.env = (false, eval e X.env) :: starEach es X.env := by rfl) : OkP g X (e :: es) (i :: is) (pN i f r) := by
  intro av W σ er H ρ μ Q tk E P h
  refine .of (pa_cons peR paR hs) (O av W σ er H ρ μ _ tk E P ?_)
  unfold pN at h
  cases e1 : f ρ μ with
  | no => rw [e1] at h; exact h
  | ex x fs ρ' μ' => rw [e1] at h; exact fun cls dd H' er' m q => h cls dd H' er' m.s q
  | ok nv ρ1 μ1 =>
    rw [e1] at h
    intro H1 er1 m1 p w hp
    simp only [Rs.bind_ok] at h
    have := R (fun a => av a ∨ a = p) W σ er1 H1 ρ1 μ1 (fun σ' H' => Q (σ'.set i (some (.ref p))) H') tk w.env w.hp ?_
    · exact fun pos pins s I => thn (this pos pins s I) fun us s' ⟨vs, H', I', rs, hl, q⟩ => ⟨vs, H', I', rs, by rw [List.length_cons, List.length_cons, hl], q⟩
    · have nop : ¬ Ow ρ1 σ p := fun ⟨j, hj, hs⟩ => by
        rcases hj with ⟨e', xs, q⟩ | ⟨e', xs, q⟩
        · obtain ⟨a, vs, h1, _, _, _, h5, _⟩ := w.env.ol j e' xs q
          rw [hs] at h1; cases h1
          exact h5 (.inr rfl)
        · obtain ⟨a, vs, h1, _, _, _, _, h5, _⟩ := w.env.od j e' xs q
          rw [hs] at h1; cases h1
          exact h5 (.inr rfl)
      cases e3 : r ρ1 μ1 with
      | no => rw [e3] at h; exact h
      | ex x fs ρ' μ' =>
        rw [e3] at h
        exact fun cls dd H' er' m q => h cls dd H' er' (m1.s.trans (NxS.and (g := g.at av) m)) (ExRep.cv (g := (g.at av).and p) (av' := av) free_and q)
      | ok o ρ3 μ3 =>
        rw [e3] at h
        intro σ3 H3 er3 m3
        have w3 : NewAt (g.at av) σ3 er3 H3 ρ3 μ3 p nv := by
          have hp1 : H1 p ≠ none := w.hp.av p (.inr rfl)
          refine ⟨m3.env, m3.hp, w.era.ext m3.x hp1, w.sa, w.sb, w.av, ?_⟩
          cases nv with
          | nl e xs =>
            obtain ⟨vs, h1, h2⟩ := w.at_
            exact ⟨vs, m3.x.same p _ h1 nop w.sa w.sb rfl, RepDs.ext m3.x w.env.owl w.hp.sal m3.ow h2⟩
          | nd e xs =>
            obtain ⟨vs, h1, h2, h3⟩ := w.at_
            exact ⟨vs, m3.x.same p _ h1 nop w.sa w.sb rfl, h2, RepKs.ext m3.x w.env.owl w.hp.sal m3.ow h3⟩
        exact h _ H3 er3 (nxs_new (m1.s.trans (NxS.and (g := g.at av) m3)) w3 hp)
theorem OkP.toS {es : List Expr} {is : List Nat} {f : Ro → Mu → Rs Fl} (O : OkP g X es is f) {Z : Ends} (tk : Takes X W) (E : RepEnv (g.at av) er μ.ec H ρ σ) (P : HpOk (g.at av) er H μ) (hf : ∀ ρ μ d ρ' μ', f ρ μ ≠ .ok (.rt d) ρ' μ') (h : DenS (g.at av) W σ er H ρ μ (f ρ μ) Z) :
    RunA X es σ H fun vs H1 => vs.length = es.length ∧ Z.nx (setAll is vs σ) H1 := by
  refine O av W σ er H ρ μ Z.nx tk E P ?_
  cases e : f ρ μ with
  | ok o ρ' μ' =>
    rw [e] at h
    cases o with
    | nx => exact h
    | rt d => exact absurd e (hf _ _ _ _ _)
  | ex x fs ρ' μ' => rw [e] at h; exact fun cls dd H' er' m q => h cls dd σ H' er' m q
  | no => rw [e] at h; exact h
theorem pE_nrt {i : Nat} {f : Ro → Mu → Rs D} {r : Ro → Mu → Rs Fl} {d : D} {ρ' : Ro} {μ' : Mu} : pE i f r ρ μ ≠ .ok (.rt d) ρ' μ' := by
  unfold pE
  cases f ρ μ with
  | ok a b c =>
    simp only [Rs.bind_ok]
    cases datR a b c with
    | ok a b c =>
      simp only [Rs.bind_ok]
      cases r b c <;> exact fun z => nomatch z
    | _ => exact fun z => nomatch z
  | _ => exact fun z => nomatch z
theorem pN_nrt {i : Nat} {f : Ro → Mu → Rs NV} {r : Ro → Mu → Rs Fl} {d : D} {ρ' : Ro} {μ' : Mu} : pN i f r ρ μ ≠ .ok (.rt d) ρ' μ' := by
  unfold pN
  cases f ρ μ with
  | ok a b c =>
    simp only [Rs.bind_ok]
    cases r b c <;> exact fun z => nomatch z
  | _ => exact fun z => nomatch z
theorem OkS.par2 {i j : Nat} {x y : Str} {a b : Expr} {f : Ro → Mu → Rs Fl} {px py pt pos : Pos} {kt k2 : Nat} {pt2 : Pos} (C : Cxt g bl n N sc X) (hi : N[i]? = some x) (hj : N[j]? = some y) (hij : i ≠ j) (hx : sc.names.lookup x = some .local) (hy : sc.names.lookup y = some .local) (O : OkP g X [a, b] [i, j] f)
    (hf : ∀ ρ μ d ρ' μ', f ρ μ ≠ .ok (.rt d) ρ' μ')
    (hw : swappedStores [.Tuple [.Name x px, .Name y py] kt pt] (.Tuple [a, b] k2 pt2) X.env = pure (some [x, y]))
    (hs : swapsWithSole [.Tuple [.Name x px, .Name y py] kt pt] (.Tuple [a, b] k2 pt2) pos.line X.env = pure false := by rfl) :
    OkS g X (.Assign [.Tuple [.Name x px, .Name y py] kt pt] (.Tuple [a, b] k2 pt2) pos) f := by
  intro av W σ er H ρ μ Z tk E P h
  refine .of (ps_par C.calm C.ndup (C.at hi) (C.at hj) hij (by rw [C.hsc]; exact hx) (by rw [C.hsc]; exact hy) paR hw hs) ?_
  have := O.toS tk E P hf h
  refine fun pos pins s I => thn (this pos pins s I) fun us s' ⟨vs, H', I', rs, hl, q⟩ => ⟨vs, H', I', rs, ?_⟩
  match vs, hl, q with
  | [v, w], _, q => exact ⟨v, w, rfl, by rw [List.set_comm _ _ hij]; exact q⟩
theorem OkS.par3 {i j l : Nat} {x y z : Str} {a b c : Expr} {f : Ro → Mu → Rs Fl} {px py pz pt pos : Pos} {kt k2 : Nat} {pt2 : Pos} (C : Cxt g bl n N sc X) (hi : N[i]? = some x) (hj : N[j]? = some y) (hl : N[l]? = some z) (hij : i ≠ j) (hil : i ≠ l) (hjl : j ≠ l) (hx : sc.names.lookup x = some .local) (hy : sc.names.lookup y = some .local) (hz : sc.names.lookup z = some .local) (O : OkP g X [a, b, c] [i, j, l] f)
    (hf : ∀ ρ μ d ρ' μ', f ρ μ ≠ .ok (.rt d) ρ' μ')
    (hw : swappedStores [.Tuple [.Name x px, .Name y py, .Name z pz] kt pt] (.Tuple [a, b, c] k2 pt2) X.env = pure (some [x, y, z]))
    (hs : swapsWithSole [.Tuple [.Name x px, .Name y py, .Name z pz] kt pt] (.Tuple [a, b, c] k2 pt2) pos.line X.env = pure false := by rfl) :
    OkS g X (.Assign [.Tuple [.Name x px, .Name y py, .Name z pz] kt pt] (.Tuple [a, b, c] k2 pt2) pos) f := by
  intro av W σ er H ρ μ Z tk E P h
  refine .of (ps_par3 C.calm C.ndup (C.at hi) (C.at hj) (C.at hl) hij hil hjl (by rw [C.hsc]; exact hx) (by rw [C.hsc]; exact hy) (by rw [C.hsc]; exact hz) paR hw hs) ?_
  have := O.toS tk E P hf h
  refine fun pos pins s I => thn (this pos pins s I) fun us s' ⟨vs, H', I', rs, hl, q⟩ => ⟨vs, H', I', rs, ?_⟩
  match vs, hl, q with
  | [u, v, w], _, q => exact ⟨u, v, w, rfl, by
      have e : ((σ.set i (some u)).set j (some v)).set l (some w) = ((σ.set l (some w)).set j (some v)).set i (some u) := by
        rw [List.set_comm _ _ hij, List.set_comm _ _ hil, List.set_comm _ _ hjl]
      rw [e]; exact q⟩
end
end GW

set_option maxHeartbeats 1000000
namespace GW
open PySem PySem.Spec PyProof.Rows L2
section
variable {g : Gd} {X : Cx} {W : WX} {σ : St} {er : Er} {H : Hp} {ρ : Ro} {μ : Mu} {c : Nat} {ow ow' : Addr → Prop} {av : Addr → Prop} {bl : List Str} {n : Nat} {N : List Str} {sc : Scope} {α β : Type}
/-! ### own dicts -/
def putD (kvs : List (Key × D)) (k : Key) (d : D) : List (Key × D) :=
  if (kvs.any fun kv => decide (kv.1 = k)) = true then kvs.map (fun kv => if kv.1 = k then (kv.1, d) else kv) else kvs ++ [(k, d)]
theorem RepKs.keys : ∀ {vs : List (Key × V)} {ds : List (Key × D)}, RepKs g er c H ow vs ds → vs.map (·.1) = ds.map (·.1)
  | _, _, .nil => rfl
  | _, _, .cons h r => by rw [List.map_cons, List.map_cons, RepKs.keys r]
theorem RepKs.append : ∀ {vs ws : List (Key × V)} {ds es : List (Key × D)}, RepKs g er c H ow vs ds → RepKs g er c H ow ws es → RepKs g er c H ow (vs ++ ws) (ds ++ es)
  | _, _, _, _, .nil, s => s
  | _, _, _, _, .cons h r, s => .cons h (RepKs.append r s)
theorem RepKs.repl {k : Key} {v : V} {d : D} (h : RepD g er c H ow v d) : ∀ {vs : List (Key × V)} {ds : List (Key × D)}, RepKs g er c H ow vs ds → RepKs g er c H ow (vs.map fun kv => if kv.1 = k then (kv.1, v) else kv) (ds.map fun kv => if kv.1 = k then (kv.1, d) else kv)
  | _, _, .nil => .nil
  | _, _, .cons (k := k') h' r => by
    rw [List.map_cons, List.map_cons]
    by_cases e : k' = k
    · simp only [e, if_true]; exact .cons h (RepKs.repl h r)
    · simp only [e, if_false]; exact .cons h' (RepKs.repl h r)
theorem any_keys {α β : Type} (k : Key) : ∀ {a : List (Key × α)} {b : List (Key × β)}, a.map (·.1) = b.map (·.1) → (a.any fun kv => decide (kv.1 = k)) = b.any fun kv => decide (kv.1 = k)
  | [], [], _ => rfl
  | [], _ :: _, h => by cases h
  | _ :: _, [], h => by cases h
  | x :: a, y :: b, h => by
    rw [List.map_cons, List.map_cons, List.cons.injEq] at h
    rw [List.any_cons, List.any_cons, h.1, any_keys k h.2]
theorem RepKs.put {k : Key} {v : V} {d : D} {vs : List (Key × V)} {ds : List (Key × D)} (r : RepKs g er c H ow vs ds) (h : RepD g er c H ow v d) : RepKs g er c H ow (putK vs k v) (putD ds k d) := by
  unfold putK putD
  rw [any_keys k r.keys]
  split
  · exact r.repl h
  · exact r.append (.cons h .nil)
theorem put_keys {vs : List (Key × V)} {k : Key} {v : V} : (putK vs k v).map (·.1) = if (vs.any fun kv => decide (kv.1 = k)) = true then vs.map (·.1) else vs.map (·.1) ++ [k] := by
  unfold putK
  split
  · rw [List.map_map]
    congr 1
    funext kv
    show (if kv.1 = k then (kv.1, v) else kv).1 = kv.1
    split <;> rfl
  · rw [List.map_append]; rfl
theorem put_nodup {vs : List (Key × V)} {k : Key} {v : V} (h : (vs.map (·.1)).Nodup) : ((putK vs k v).map (·.1)).Nodup := by
  rw [put_keys]
  split
  · exact h
  · rename_i q
    rw [List.nodup_append]
    refine ⟨h, by simp, fun a ha b hb z => ?_⟩
    rw [List.mem_singleton] at hb
    subst hb z
    obtain ⟨kv, h1, h2⟩ := List.mem_map.mp ha
    exact q (List.any_eq_true.mpr ⟨kv, h1, decide_eq_true h2⟩)
/-- x[key] = e -/
def sPut (i : Nat) (fv fk : Ro → Mu → Rs D) : Ro → Mu → Rs Fl := fun ρ μ => (fv ρ μ).bind fun d ρ1 μ1 => (datR d ρ1 μ1).bind fun d ρ2 μ2 => match ρ2[i]? with
  | some (.od _ _) => (fk ρ2 μ2).bind fun y ρ3 μ3 => match rsv ρ3 y with
    | some y => match keyD y, ρ3[i]? with
      | some k, some (.od e kvs) => if decide (kvs.length < sizeLine) then .ok .nx (ρ3.set i (.od e (putD kvs k d))) μ3 else .no
      | _, _ => .no
    | none => .no
  | _ => .no
theorem OkS.put {i : Nat} {x : Str} {e key : Expr} {fv fk : Ro → Mu → Rs D} {pos pos' np : Pos} (C : Cxt g bl n N sc X) (hi : N[i]? = some x) (hv : Vis sc x) (hd : (x == ("__debug__" : Str)) = false) (hcd : (x == ("__classdict__" : Str)) = false) (Ov : OkE g X e fv) (Ok : OkE g X key fk)
    (hs : swapsWith e (some (.Subscript (.Name x np) key pos')) pos.line X.env = pure false := by rfl) : OkS g X (.Assign [.Subscript (.Name x np) key pos'] e pos) (sPut i fv fk) := by
  intro av W σ er H ρ μ Z tk E P h
  have hu := C.hu
  refine .of (ps_dput (by omega) peR peR peR hs) (runES Ov tk E P h fun d ρ1 μ1 v H1 er1 E1 P1 r1 h1 => ?_)
  obtain ⟨d', ρ2, E2, r2, h2⟩ := h1.dat E1 P1 r1
  cases q : ρ2[i]? with
  | none => simp only [q] at h2; exact h2.elim
  | some sv =>
    cases sv with
    | od e0 kvs0 =>
      simp only [q] at h2
      obtain ⟨a, us0, hi', _⟩ := E2.od i e0 kvs0 q
      refine own_at (C.at hi) (by rw [C.hsc]; exact hv) hd hcd hi' (Ok av W σ er1 H1 ρ2 μ1 _ tk E2 P1 (DenG.e (h2.bind fun y ρ3 μ3 H3 er3 _ m3 h3 u ru => ?_)))
      cases e1 : rsv ρ3 y with
      | none => simp only [e1] at h3; exact h3.elim
      | some y' =>
        simp only [e1] at h3
        cases e2 : keyD y' with
        | none => simp only [e2] at h3; exact h3.elim
        | some k =>
          cases q3 : ρ3[i]? with
          | none => simp only [e2, q3] at h3; exact h3.elim
          | some sv3 =>
            cases sv3 with
            | od e3 kvs =>
              simp only [e2, q3] at h3
              split at h3
              · rename_i hz
                obtain ⟨a', us, hi3, h4, _, nd, h5, _⟩ := m3.env.od i e3 kvs q3
                rw [hi'] at hi3; cases hi3
                have rk := keyD_rep (rsv_ok m3.env ru e1) e2
                subst rk
                exact ⟨a, _, rfl, .inl ⟨us, k, h4, rfl, by rw [h5.length]; exact of_decide_eq_true hz, rfl⟩, h3 σ _ er3 (nx_od m3.env m3.hp q3 hi' (put_nodup nd) (h5.put (r2.nx m3 E2 P1))).s⟩
              · exact h3.elim
            | _ => simp only [e2, q3] at h3; exact h3.elim
    | _ => simp only [q] at h2; exact h2.elim
/-! ### dict displays -/
def evD0 : Ro → Mu → Rs NV := fun ρ μ => .ok (.nd μ.ec []) ρ μ
theorem OkN.dict0 {pos : Pos} : OkN g X (.Dict [] [] pos) evD0 := fun av W σ er H ρ μ Q tk E P h => .of pe_dnewK fun p hp => h.nd E P hp id .nil .nil
end
end GW

set_option maxHeartbeats 1000000
namespace GW
open PySem PySem.Spec PyProof.Rows L2
/-- at turn i of a walk over ds -/
def WalkAt (g : Gd) (J : It) (i : Nat) (ds : List D) (er : Er) (c : Nat) (H : Hp) (ow : Addr → Prop) : Prop :=
  (ds.length ≤ i → J.stop i H) ∧ (i < ds.length → J.go i H ∧ ∀ x H', J.yld i H x H' → (H' = H ∨ ∃ p vs, H p = none ∧ H' = upd H p (.tup vs)) ∧ ∀ d, ds[i]? = some d → RepD g er c H' ow x d)
/-- a walk over ds, whatever happens to what is not free -/
def Walks (g : Gd) (ow0 : Addr → Prop) (er0 : Er) (c0 : Nat) (H0 : Hp) (J : It) (ds : List D) : Prop := ∀ (av' : Addr → Prop) (ow : Addr → Prop) (er : Er) (c : Nat) (H : Hp) (i : Nat), (∀ a, av' a → g.av a ∨ H0 a = none) →
  Ext g ow0 er0 c0 H0 er c H → (∀ a, ow a → ow0 a ∨ H0 a = none) → OwL ow H → SaL g H → (∀ a, av' a → H a ≠ none) → WalkAt (g.at av') J i ds er c H ow
def RunI (X : Cx) (tg iter : Expr) : TI := fun σ H R => ∀ (pins : List (Addr × Obj)) (s : Shared), Inv X pins σ H s → wpAny (model X.prog X.w) X.A (eval iter X.env) (fun v s1 => wpAny (model X.prog X.w) X.A (pyIter v) (PIE X pins σ tg R) X.xe s1) X.xe s
section
variable {g : Gd} {X : Cx} {W : WX} {σ : St} {er : Er} {H : Hp} {ρ : Ro} {μ : Mu} {c : Nat} {ow ow' : Addr → Prop} {av : Addr → Prop} {bl : List Str} {n : Nat} {N : List Str} {sc : Scope} {α β : Type} {tg iter : Expr}
theorem piR : PI X tg iter (RunI X tg iter) := ⟨fun pins s σ H R I h => h pins s I⟩
theorem RunI.of {t : TI} {R : It → Hp → Prop} (h : PI X tg iter t) (q : t σ H R) : RunI X tg iter σ H R := fun pins s I => h.run pins s σ H R I q
def OkI (g : Gd) (X : Cx) (tg iter : Expr) (f : Ro → Mu → Rs (List D)) : Prop := ∀ (av : Addr → Prop) (W : WX) (σ : St) (er : Er) (H : Hp) (ρ : Ro) (μ : Mu) (R : It → Hp → Prop), Takes X W → RepEnv (g.at av) er μ.ec H ρ σ → HpOk (g.at av) er H μ →
  DenG (g.at av) W σ er H ρ μ (f ρ μ) (fun ds ρ' μ' H' er' => ∀ J, Walks (g.at av) (Ow ρ' σ) er' μ'.ec H' J ds → R J H') → RunI X tg iter σ H R
/-- the tree in a later state, under other owners -/
theorem RepD.later {av' : Addr → Prop} {er' : Er} {c' : Nat} {H' : Hp} {v : V} {d : D} (h1 : ∀ a, av' a → g.av a ∨ H a = none) (x : Ext g ow er c H er' c' H') (hl : OwL ow H) (hs : SaL g H) (hw : ∀ a, ow' a → ow a ∨ H a = none) (r : RepD g er c H ow v d) : RepD (g.at av') er' c' H' ow' v d :=
  RepD.ext (g := g.at av') (ext_av (g := g) (av1 := g.av) (av2 := av') x) hl hs hw (RepD.cv (g := g) (av' := av') (fun a ha f => ⟨fun z => (h1 a z).elim f.1 ha, f.2⟩) r)
theorem walks_list {a : Addr} {vs : List V} {ds : List D} {K : PySem.W.Frag} (hK : K = g.K) (h : H a = some (.lst vs)) (fr : Free g ow a) (r : RepDs g er c H ow vs ds) (hl : OwL ow H) (hs : SaL g H) : Walks g ow er c H (Itl K a) ds := by
  intro av' ow1 er1 c1 H1 i h1 x hw _ _ _
  have e : SqL K H1 a vs := .of (x.same a _ h fr.2.1 fr.2.2.1 fr.2.2.2 rfl)
  refine ⟨fun z => ⟨vs, e, by rw [r.length]; exact z⟩, fun z => ?_⟩
  obtain ⟨v, e1, e2⟩ := r.get (List.getElem?_eq_getElem z)
  refine ⟨⟨vs, v, e, e1⟩, fun y H' q => ⟨.inl q.1, fun d hd => ?_⟩⟩
  obtain ⟨rfl, q⟩ := q
  obtain ⟨v', e3, e4⟩ := r.get hd
  rw [q vs e] at e3; cases e3
  exact e4.later h1 x hl hs hw
theorem walks_tup {a : Addr} {vs : List V} {ds : List D} (h : SqT g.K H a vs) (r : RepDs g er c H ow vs ds) (hl : OwL ow H) (hs : SaL g H) {K : PySem.W.Frag} (hK : K = g.K) : Walks g ow er c H (Itt K a) ds := by
  subst hK
  intro av' ow1 er1 c1 H1 i h1 x hw _ _ _
  have e : SqT g.K H1 a vs := SqT.ext h x hl hs
  refine ⟨fun z => ⟨vs, e, by rw [r.length]; exact z⟩, fun z => ?_⟩
  obtain ⟨v, e1, e2⟩ := r.get (List.getElem?_eq_getElem z)
  refine ⟨⟨vs, v, e, e1⟩, fun y H' q => ⟨.inl q.1, fun d hd => ?_⟩⟩
  obtain ⟨rfl, q⟩ := q
  obtain ⟨v', e3, e4⟩ := r.get hd
  rw [q vs e] at e3; cases e3
  exact e4.later h1 x hl hs hw
def rangeD (lo : Int) (n : Nat) : List D := (List.range n).map fun i => .int (lo + (i : Nat))
theorem range_get {lo : Int} {n i : Nat} {d : D} (h : (rangeD lo n)[i]? = some d) : d = .int (lo + i) := by
  unfold rangeD at h
  rw [List.getElem?_map] at h
  cases e : (List.range n)[i]? with
  | none => rw [e] at h; cases h
  | some j =>
    rw [e] at h
    obtain ⟨h1, h2⟩ := List.getElem?_eq_some_iff.mp e
    rw [List.getElem_range] at h2
    cases h; rw [h2]
theorem walks_range {lo : Int} {n : Nat} : Walks g ow er c H (Itr lo n) (rangeD lo n) := by
  intro av' ow1 er1 c1 H1 i h1 x hw _ _ _
  have hl : (rangeD lo n).length = n := by simp [rangeD]
  rw [WalkAt, hl]
  refine ⟨fun z => z, fun z => ⟨z, fun y H' q => ⟨.inl q.1, fun d hd => ?_⟩⟩⟩
  rw [range_get hd, q.2]
  exact .int _
def rangeDc (lo st : Int) (n : Nat) : List D := (List.range n).map fun i => .int (lo + (i : Nat) * st)
theorem walks_rangec {lo st : Int} {n : Nat} : Walks g ow er c H (Itc lo st n) (rangeDc lo st n) := by
  intro av' ow1 er1 c1 H1 i h1 x hw _ _ _
  have hl : (rangeDc lo st n).length = n := by simp [rangeDc]
  rw [WalkAt, hl]
  refine ⟨fun z => z, fun z => ⟨z, fun y H' q => ⟨.inl q.1, fun d hd => ?_⟩⟩⟩
  unfold rangeDc at hd
  rw [List.getElem?_map] at hd
  cases e : (List.range n)[i]? with
  | none => rw [e] at hd; cases hd
  | some j =>
    rw [e] at hd
    obtain ⟨h1, h2⟩ := List.getElem?_eq_some_iff.mp e
    rw [List.getElem_range] at h2
    cases hd; rw [q.2, h2]; exact .int _
def strD (z : Str) : List D := z.cps.toList.map fun k => .str ⟨#[k]⟩
theorem walks_str {z : Str} : Walks g ow er c H (Its z) (strD z) := by
  intro av' ow1 er1 c1 H1 i h1 x hw _ _ _
  have hl : (strD z).length = z.cps.size := by simp [strD]
  rw [WalkAt, hl]
  refine ⟨fun q => q, fun q => ⟨q, fun y H' q => ⟨.inl q.1, fun d hd => ?_⟩⟩⟩
  obtain ⟨rfl, k, h2, rfl⟩ := q
  unfold strD at hd
  rw [List.getElem?_map, Array.getElem?_toList, h2] at hd
  cases hd; exact .str _
/-! ### what is walked -/
/-- the items of a value that is no dict -/
def itemsD : D → Option (List D)
  | .lst _ xs => some xs
  | .tup xs => some xs
  | .str z => some (strD z)
  | _ => none
def evIt (f : Ro → Mu → Rs D) : Ro → Mu → Rs (List D) := fun ρ μ => (f ρ μ).bind fun d ρ1 μ1 => (datR d ρ1 μ1).bind fun d ρ2 μ2 => match itemsD d with
  | some xs => .ok xs ρ2 μ2
  | none => .no
theorem pi_any3 {te : TE} (he : PE X iter te) : PI X tg iter (fun σ H R => te σ H fun v H1 => (∃ a, v = .ref a ∧ (∃ xs, SqL X.K H1 a xs) ∧ R (Itl X.K a) H1) ∨ (∃ a, v = .ref a ∧ (∃ xs, SqT X.K H1 a xs) ∧ R (Itt X.K a) H1) ∨ (∃ z, v = .str z ∧ R (Its z) H1) ∨ ∃ d o kvs, v = .ref d ∧ H1 d = some (.frz o (.dK kvs)) ∧ R (Itk d o kvs) H1) := by
  refine ⟨fun pins s σ H R I h => ?_⟩
  refine thn (he.run pins s σ H _ I h) fun v s1 ⟨x, H1, I1, r1, q⟩ => ?_
  rcases q with ⟨a, rfl, ⟨xs, hq⟩, q⟩ | ⟨a, rfl, ⟨xs, hq⟩, q⟩ | ⟨z, rfl, q⟩ | ⟨d, o, kvs, rfl, hd, q⟩
  · cases r1
    obtain ⟨its, rv, p, hz⟩ := I1.list hq
    refine wpAny_pyIter_list p.isList ?_
    refine ⟨s1.heap.objs.size, [s1.heap.objs.size], _, _, H1, rfl, I1.kept (t' := s1.toks) fun b o e => Heap.get?_push_of_some _ e, turn_list a _, ⟨_, Heap.get?_push_size _ rfl, rfl, rfl⟩, fun b hb => ?_, q⟩
    have e : b = s1.heap.objs.size := by simpa using hb
    subst e
    exact I1.fpOk (Nat.le_refl _) (I1.hok.fresh (Nat.le_refl _))
  · cases r1
    obtain ⟨its, rv, p, hz⟩ := I1.tuple hq
    refine wpAny_pyIter_tuple (show s1.heap.IsTuple a its.toArray from p) ?_
    refine ⟨s1.heap.objs.size, [s1.heap.objs.size], _, _, H1, rfl, I1.kept (t' := s1.toks) fun b o e => Heap.get?_push_of_some _ e, turn_tuple a _, ⟨_, Heap.get?_push_size _ rfl, rfl, rfl⟩, fun b hb => ?_, q⟩
    have e : b = s1.heap.objs.size := by simpa using hb
    subst e
    exact I1.fpOk (Nat.le_refl _) (I1.hok.fresh (Nat.le_refl _))
  · obtain ⟨t, rfl⟩ := r1
    cases ha : z.cps.all (· < 128)
    · exact wpAny_pyIter_wide ha (pi_one (tk := s1.toks) I1 _ (turn_str _ z t "str_iterator" (.inr rfl)) ⟨_, Heap.get?_push_size _ rfl, rfl, rfl⟩ q)
    · exact wpAny_pyIter_ascii ha (pi_one (tk := s1.toks) I1 _ (turn_str _ z t "str_ascii_iterator" (.inl rfl)) ⟨_, Heap.get?_push_size _ rfl, rfl, rfl⟩ q)
  · obtain rfl : v = Value.ref d := r1
    obtain ⟨hs, hgd, hx, es, ep, vs, hdt, hsz, kv, hm⟩ := I1.frzK hd
    refine iter_keys hs hgd hx hdt (pi_one (tk := s1.toks) I1 _ (turn_keys _ hdt) ⟨_, Heap.get?_push_size _ rfl, rfl, ?_⟩ q)
    rw [hsz] <;> rfl
theorem OkI.any {f : Ro → Mu → Rs D} (hK : X.K = g.K) (O : OkE g X iter f) : OkI g X tg iter (evIt f) := by
  intro av W σ er H ρ μ R tk E P h
  refine .of (pi_any3 peR) (runE O tk E P h fun d ρ1 μ1 v H1 er1 E1 P1 r1 h1 => ?_)
  obtain ⟨d', ρ2, E2, r2, h2⟩ := h1.dat E1 P1 r1
  unfold itemsD at h2
  cases d' with
  | lst e xs =>
    cases r2 with
    | lst ha he hf r => exact .inl ⟨_, rfl, ⟨_, .of ha⟩, h2.ok E2 P1 _ (walks_list hK ha hf r E2.owl P1.sal)⟩
  | tup xs =>
    cases r2 with
    | tup ha r => exact .inr (.inl ⟨_, rfl, ⟨_, by rw [hK]; exact ha⟩, h2.ok E2 P1 _ (walks_tup ha r E2.owl P1.sal hK)⟩)
  | str z =>
    cases r2
    exact .inr (.inr (.inl ⟨z, rfl, h2.ok E2 P1 _ walks_str⟩))
  | _ => exact h2.elim
def evR1 (fa : Ro → Mu → Rs D) : Ro → Mu → Rs (List D) := fun ρ μ => (fa ρ μ).bind fun d ρ1 μ1 => match d with
  | .int j => if decide (-(2 ^ 62) ≤ j ∧ j < 2 ^ 62) then .ok (rangeD 0 j.toNat) ρ1 μ1 else .no
  | _ => .no
theorem OkI.range1 {a : Expr} {f : Ro → Mu → Rs D} {p pos : Pos} (C : Cxt g bl n N sc X) (hg : sc.names.lookup ("range" : Str) = some .globalImplicit) (hb : ("range" : Str) ∈ bl) (O : OkE g X a f) (hs : starEach [a] X.env = [(false, eval a X.env)] := by rfl) : OkI g X tg (.Call (.Name "range" p) [a] [] pos) (evR1 f) := by
  intro av W σ er H ρ μ R tk E P h
  refine .of (pi_range1 (C.gl hg) (C.non hb) (pa_cons peR pa_nil hs) hs) (runE O tk E P h fun d ρ1 μ1 v H1 er1 E1 P1 r1 h1 => ?_)
  cases d with
  | int j =>
    simp only at h1
    split at h1
    · rename_i hz
      obtain ⟨z1, z2⟩ := of_decide_eq_true hz
      cases r1 with | d r1 =>
      cases r1
      exact ⟨j, rfl, z1, z2, h1.ok E1 P1 _ walks_range⟩
    · exact h1.elim
  | _ => exact h1.elim
def evR2 (fa fb : Ro → Mu → Rs D) : Ro → Mu → Rs (List D) := fun ρ μ => (fa ρ μ).bind fun d ρ1 μ1 => (fb ρ1 μ1).bind fun d2 ρ2 μ2 => match d, d2 with
  | .int i, .int j => if decide (-(2 ^ 62) ≤ i ∧ i < 2 ^ 62 ∧ -(2 ^ 62) ≤ j ∧ j < 2 ^ 62) then .ok (rangeD i (j - i).toNat) ρ2 μ2 else .no
  | _, _ => .no
theorem o_int {v : V} {i : Int} (h : RepO g er c H ρ σ v (.int i)) : v = .int i := by
  cases h with | d h => cases h; rfl
theorem OkI.range2 {a b : Expr} {fa fb : Ro → Mu → Rs D} {p pos : Pos} (C : Cxt g bl n N sc X) (hg : sc.names.lookup ("range" : Str) = some .globalImplicit) (hb : ("range" : Str) ∈ bl) (Oa : OkE g X a fa) (Ob : OkE g X b fb) (hs : starEach [a, b] X.env = [(false, eval a X.env), (false, eval b X.env)] := by rfl) (hs2 : starEach [b] X.env = [(false, eval b X.env)] := by rfl) : OkI g X tg (.Call (.Name "range" p) [a, b] [] pos) (evR2 fa fb) := by
  intro av W σ er H ρ μ R tk E P h
  refine .of (pi_range2 (C.gl hg) (C.non hb) (pa_cons peR (pa_cons peR pa_nil hs2) (by rw [hs, hs2])) hs hs2) (Oa av W σ er H ρ μ _ tk E P (DenG.e (h.bind fun d ρ1 μ1 H1 er1 _ n1 h1 v r1 => ?_)))
  refine runE Ob tk n1.env n1.hp h1 fun d2 ρ2 μ2 u H2 er2 E2 P2 r2 h2 => ?_
  cases d with
  | int i =>
    cases d2 with
    | int j =>
      simp only at h2
      split at h2
      · rename_i hz
        cases o_int r1; cases o_int r2
        exact ⟨i, j, rfl, of_decide_eq_true hz, h2.ok E2 P2 _ walks_range⟩
      · exact h2.elim
    | _ => exact h2.elim
  | _ => exact h2.elim
def evR3d (fa fb fc : Ro → Mu → Rs D) : Ro → Mu → Rs (List D) := fun ρ μ => (fa ρ μ).bind fun d ρ1 μ1 => (fb ρ1 μ1).bind fun d2 ρ2 μ2 => (fc ρ2 μ2).bind fun d3 ρ3 μ3 => match d, d2, d3 with
  | .int i, .int j, .int k => if decide (k = -1 ∧ -(2 ^ 62) ≤ i ∧ i < 2 ^ 62 ∧ -(2 ^ 62) ≤ j ∧ j < 2 ^ 62) then .ok (rangeDc i (-1) (i - j).toNat) ρ3 μ3 else .no
  | _, _, _ => .no
theorem OkI.range3 {a b e : Expr} {fa fb fe : Ro → Mu → Rs D} {p pos : Pos} (C : Cxt g bl n N sc X) (hg : sc.names.lookup ("range" : Str) = some .globalImplicit) (hb : ("range" : Str) ∈ bl) (Oa : OkE g X a fa) (Ob : OkE g X b fb) (Oe : OkE g X e fe)
    (hs : starEach [a, b, e] X.env = (false, eval a X.env) :: starEach [b, e] X.env := by rfl) (hs2 : starEach [b, e] X.env = (false, eval b X.env) :: starEach [e] X.env := by rfl) (hs3 : starEach [e] X.env = (false, eval e X.env) :: starEach [] X.env := by rfl) (hpl : (backTo pos (starEach [b, e] X.env)).any (·.1) = false := by rfl) : OkI g X tg (.Call (.Name "range" p) [a, b, e] [] pos) (evR3d fa fb fe) := by
  intro av W σ er H ρ μ R tk E P h
  refine .of (pi_range3 (C.gl hg) (C.non hb) (pa_cons peR (pa_cons peR (pa_cons peR pa_nil hs3) hs2) hs) hs hpl) (Oa av W σ er H ρ μ _ tk E P (DenG.e (h.bind fun d ρ1 μ1 H1 er1 _ n1 h1 v r1 => ?_)))
  refine Ob av W σ er1 H1 ρ1 μ1 _ tk n1.env n1.hp (DenG.e (h1.bind fun d2 ρ2 μ2 H2 er2 _ n2 h2 u r2 => ?_))
  refine runE Oe tk n2.env n2.hp h2 fun d3 ρ3 μ3 w H3 er3 E3 P3 r3 h3 => ?_
  cases d with
  | int i =>
    cases d2 with
    | int j =>
      cases d3 with
      | int k =>
        simp only at h3
        split at h3
        · rename_i hz
          obtain ⟨rfl, z1, z2, z3, z4⟩ := of_decide_eq_true hz
          cases o_int r1; cases o_int r2; cases o_int r3
          exact ⟨i, j, -1, (i - j).toNat, rfl, RgC.neg z1 z2 z3 z4, h3.ok E3 P3 _ walks_rangec⟩
        · exact h3.elim
      | _ => exact h3.elim
    | _ => exact h3.elim
  | _ => exact h3.elim
def enumD : Nat → List D → List D
  | _, [] => []
  | i, d :: ds => .tup [.int i, d] :: enumD (i + 1) ds
theorem enumD_len : ∀ (ds : List D) (k : Nat), (enumD k ds).length = ds.length
  | [], _ => rfl
  | d :: ds, k => congrArg (· + 1) (enumD_len ds (k + 1))
theorem enumD_get : ∀ (ds : List D) (k i : Nat) (d : D), (enumD k ds)[i]? = some d → ∃ d', ds[i]? = some d' ∧ d = .tup [.int ((k + i : Nat) : Int), d']
  | [], _, _, _, h => by simp [enumD] at h
  | x :: ds, k, 0, d, h => by cases h; exact ⟨x, rfl, rfl⟩
  | x :: ds, k, i + 1, d, h => by
    obtain ⟨d', h1, h2⟩ := enumD_get ds (k + 1) i d h
    exact ⟨d', h1, by rw [h2]; congr 4; omega⟩
theorem walks_enum {a : Addr} {vs : List V} {ds : List D} {K : PySem.W.Frag} (hK : K = g.K) (h : H a = some (.lst vs)) (fr : Free g ow a) (r : RepDs g er c H ow vs ds) (hl : OwL ow H) (hs : SaL g H) : Walks g ow er c H (Ite K a) (enumD 0 ds) := by
  intro av' ow1 er1 c1 H1 i h1 x hw hl1 hs1 _
  have e : SqL K H1 a vs := .of (x.same a _ h fr.2.1 fr.2.2.1 fr.2.2.2 rfl)
  rw [WalkAt, enumD_len]
  refine ⟨fun z => ⟨vs, e, by rw [r.length]; exact z⟩, fun z => ?_⟩
  obtain ⟨v, e1, e2⟩ := r.get (List.getElem?_eq_getElem z)
  refine ⟨⟨vs, v, e, e1⟩, fun y H' ⟨T, w, ey, hT, eH, q⟩ => ⟨.inr ⟨T, _, hT, eH⟩, fun d hd => ?_⟩⟩
  subst ey eH
  obtain ⟨d', hd', rfl⟩ := enumD_get ds 0 i d hd
  obtain ⟨v', e3, e4⟩ := r.get hd'
  have e5 := q vs e
  rw [e3] at e5; cases e5
  refine .tup (.inl (.inl upd_same)) (.cons ?_ (.cons (RepD.ext (g := g.at av') (ext_new _ hT) hl1 hs1 (fun _ => .inl) (e4.later h1 x hl hs hw)) .nil))
  rw [Nat.zero_add]; exact .int _
def evEnum (f : Ro → Mu → Rs D) : Ro → Mu → Rs (List D) := fun ρ μ => (f ρ μ).bind fun d ρ1 μ1 => (datR d ρ1 μ1).bind fun d ρ2 μ2 => match d with
  | .lst _ xs => .ok (enumD 0 xs) ρ2 μ2
  | _ => .no
theorem OkI.enum {a : Expr} {f : Ro → Mu → Rs D} {p pos tpos : Pos} {elts : List Expr} {kk : Nat} (C : Cxt g bl n N sc X) (hg : sc.names.lookup ("enumerate" : Str) = some .globalImplicit) (hb : ("enumerate" : Str) ∈ bl) (O : OkE g X a f) (hs : starEach [a] X.env = [(false, eval a X.env)] := by rfl) : OkI g X (.Tuple elts kk tpos) (.Call (.Name "enumerate" p) [a] [] pos) (evEnum f) := by
  intro av W σ er H ρ μ R tk E P h
  refine .of (pi_enum (C.gl hg) (C.non hb) (pa_cons peR pa_nil hs) hs) (runE O tk E P h fun d ρ1 μ1 v H1 er1 E1 P1 r1 h1 => ?_)
  obtain ⟨d', ρ2, E2, r2, h2⟩ := h1.dat E1 P1 r1
  cases d' with
  | lst e xs =>
    cases r2 with
    | lst ha he hf r => exact ⟨_, _, rfl, .of ha, h2.ok E2 P1 _ (walks_enum C.hK ha hf r E2.owl P1.sal)⟩
  | _ => exact h2.elim
def zipD : List D → List D → List D
  | a :: as, b :: bs => .tup [a, b] :: zipD as bs
  | _, _ => []
theorem zipD_len : ∀ (as bs : List D), (zipD as bs).length = min as.length bs.length
  | [], _ => by simp [zipD]
  | _ :: _, [] => by simp [zipD]
  | a :: as, b :: bs => by
    show (zipD as bs).length + 1 = min (as.length + 1) (bs.length + 1)
    rw [zipD_len as bs]; omega
theorem zipD_get : ∀ (as bs : List D) (i : Nat) (d : D), (zipD as bs)[i]? = some d → ∃ x y, as[i]? = some x ∧ bs[i]? = some y ∧ d = .tup [x, y]
  | [], _, _, _, h => by simp [zipD] at h
  | _ :: _, [], _, _, h => by simp [zipD] at h
  | a :: as, b :: bs, 0, d, h => by cases h; exact ⟨a, b, rfl, rfl, rfl⟩
  | a :: as, b :: bs, i + 1, d, h => zipD_get as bs i d h
theorem walks_zip {a b : Addr} {vs us : List V} {ds es : List D} {K : PySem.W.Frag} (hK : K = g.K) (ha : H a = some (.lst vs)) (fra : Free g ow a) (ra : RepDs g er c H ow vs ds) (hb : H b = some (.lst us)) (frb : Free g ow b) (rb : RepDs g er c H ow us es) (hl : OwL ow H) (hs : SaL g H) : Walks g ow er c H (Itz K a b) (zipD ds es) := by
  intro av' ow1 er1 c1 H1 i h1 x hw hl1 hs1 _
  have e : SqL K H1 a vs := .of (x.same a _ ha fra.2.1 fra.2.2.1 fra.2.2.2 rfl)
  have e' : SqL K H1 b us := .of (x.same b _ hb frb.2.1 frb.2.2.1 frb.2.2.2 rfl)
  rw [WalkAt, zipD_len]
  refine ⟨fun z => ⟨vs, us, e, e', by rw [ra.length, rb.length]; omega⟩, fun z => ?_⟩
  obtain ⟨v, e1, e2⟩ := ra.get (List.getElem?_eq_getElem (show i < ds.length by omega))
  obtain ⟨u, e3, e4⟩ := rb.get (List.getElem?_eq_getElem (show i < es.length by omega))
  refine ⟨⟨vs, us, v, u, e, e', e1, e3⟩, fun y H' ⟨T, w, w', ey, hT, eH, q, q'⟩ => ⟨.inr ⟨T, _, hT, eH⟩, fun d hd => ?_⟩⟩
  subst ey eH
  obtain ⟨d1, d2, hd1, hd2, rfl⟩ := zipD_get ds es i d hd
  obtain ⟨v1, f1, f2⟩ := ra.get hd1
  obtain ⟨u1, f3, f4⟩ := rb.get hd2
  have f5 := q vs e
  have f6 := q' us e'
  rw [f1] at f5; cases f5
  rw [f3] at f6; cases f6
  have up := fun {v : V} {d : D} (k : RepD (g.at av') er1 c1 H1 ow1 v d) => RepD.ext (g := g.at av') (ext_new (o := .tup [w, w']) _ hT) hl1 hs1 (fun _ => .inl) k
  exact .tup (.inl (.inl upd_same)) (.cons (up (f2.later h1 x hl hs hw)) (.cons (up (f4.later h1 x hl hs hw)) .nil))
theorem walks_zipT {a b : Addr} {vs us : List V} {ds es : List D} {K : PySem.W.Frag} (hK : K = g.K) (ha : SqT g.K H a vs) (ra : RepDs g er c H ow vs ds) (hb : SqT g.K H b us) (rb : RepDs g er c H ow us es) (hl : OwL ow H) (hs : SaL g H) : Walks g ow er c H (RZ.ItzT K a b) (zipD ds es) := by
  subst hK
  intro av' ow1 er1 c1 H1 i h1 x hw hl1 hs1 _
  have e : SqT g.K H1 a vs := SqT.ext ha x hl hs
  have e' : SqT g.K H1 b us := SqT.ext hb x hl hs
  rw [WalkAt, zipD_len]
  refine ⟨fun z => ⟨vs, us, e, e', by rw [ra.length, rb.length]; omega⟩, fun z => ?_⟩
  obtain ⟨v, e1, e2⟩ := ra.get (List.getElem?_eq_getElem (show i < ds.length by omega))
  obtain ⟨u, e3, e4⟩ := rb.get (List.getElem?_eq_getElem (show i < es.length by omega))
  refine ⟨⟨vs, us, v, u, e, e', e1, e3⟩, fun y H' ⟨T, w, w', ey, hT, eH, q, q'⟩ => ⟨.inr ⟨T, _, hT, eH⟩, fun d hd => ?_⟩⟩
  subst ey eH
  obtain ⟨d1, d2, hd1, hd2, rfl⟩ := zipD_get ds es i d hd
  obtain ⟨v1, f1, f2⟩ := ra.get hd1
  obtain ⟨u1, f3, f4⟩ := rb.get hd2
  have f5 := q vs e
  have f6 := q' us e'
  rw [f1] at f5; cases f5
  rw [f3] at f6; cases f6
  have up := fun {v : V} {d : D} (k : RepD (g.at av') er1 c1 H1 ow1 v d) => RepD.ext (g := g.at av') (ext_new (o := .tup [w, w']) _ hT) hl1 hs1 (fun _ => .inl) k
  exact .tup (.inl (.inl upd_same)) (.cons (up (f2.later h1 x hl hs hw)) (.cons (up (f4.later h1 x hl hs hw)) .nil))
def evZip (fa : Ro → Mu → Rs (List D)) : Ro → Mu → Rs (List D) := fun ρ μ => (fa ρ μ).bind fun ds ρ1 μ1 => (datsR ds ρ1 μ1).bind fun ds ρ2 μ2 => match ds with
  | [.lst _ xs, .lst _ ys] => .ok (zipD xs ys) ρ2 μ2
  | [.tup xs, .tup ys] => .ok (zipD xs ys) ρ2 μ2
  | _ => .no
theorem OkI.zip {a b : Expr} {f : Ro → Mu → Rs (List D)} {p pos tpos : Pos} {elts : List Expr} {kk : Nat} (C : Cxt g bl n N sc X) (hg : sc.names.lookup ("zip" : Str) = some .globalImplicit) (hb : ("zip" : Str) ∈ bl) (O : OkA g X [a, b] f)
    (hs : starEach [a, b] X.env = (false, eval a X.env) :: starEach [b] X.env := by rfl) (hpl : (backTo pos (starEach [b] X.env)).any (·.1) = false := by rfl) : OkI g X (.Tuple elts kk tpos) (.Call (.Name "zip" p) [a, b] [] pos) (evZip f) := by
  intro av W σ er H ρ μ R tk E P h
  refine .of (RZ.pi_zipA (C.gl hg) (C.non hb) paR hs hpl) (runA O tk E P h fun ds ρ1 μ1 vs H1 er1 E1 P1 r1 h1 => ?_)
  obtain ⟨ds', ρ2, E2, r2, h2⟩ := h1.dats E1 P1 r1
  split at h2
  · cases r2 with | cons q1 r2 =>
    cases r2 with | cons q2 r2 =>
    cases r2
    cases q1 with | lst ha he hf r =>
    cases q2 with | lst ha' he' hf' r' =>
    exact ⟨_, _, _, _, rfl, .inl ⟨.of ha, .of ha', h2.ok E2 P1 _ (walks_zip C.hK ha hf r ha' hf' r' E2.owl P1.sal)⟩⟩
  · cases r2 with | cons q1 r2 =>
    cases r2 with | cons q2 r2 =>
    cases r2
    cases q1 with | tup ha r =>
    cases q2 with | tup ha' r' =>
    exact ⟨_, _, _, _, rfl, .inr ⟨by rw [C.hK]; exact ha, by rw [C.hK]; exact ha', h2.ok E2 P1 _ (walks_zipT C.hK ha r ha' r' E2.owl P1.sal)⟩⟩
  · exact h2.elim
end
end GW

set_option maxHeartbeats 1000000
namespace GW
open PySem PySem.Spec PyProof.Rows L2
/-- the same but for locks on dicts -/
def LkR (H H2 : Hp) : Prop := ∀ a o, H a = some o → H2 a = some o ∨ ∃ kvs, (o = .dK kvs ∨ ∃ ob, o = .frz ob (.dK kvs)) ∧ (H2 a = some (.dK kvs) ∨ ∃ ob, H2 a = some (.frz ob (.dK kvs)))
section
variable {g : Gd} {X : Cx} {W : WX} {σ : St} {er : Er} {H H2 : Hp} {ρ : Ro} {μ : Mu} {c : Nat} {ow ow' : Addr → Prop} {av : Addr → Prop} {bl : List Str} {n : Nat} {N : List Str} {sc : Scope} {α β : Type} {tg iter : Expr}
theorem LkR.rdT {a : Addr} {vs : List V} (l : LkR H H2) (h : Rd H a (.tup vs)) : Rd H2 a (.tup vs) := by
  rcases h with h | ⟨o, h⟩
  · rcases l a _ h with q | ⟨kvs, q | ⟨ob, q⟩, _⟩
    · exact .inl q
    · cases q
    · cases q
  · rcases l a _ h with q | ⟨kvs, q | ⟨ob, q⟩, _⟩
    · exact .inr ⟨o, q⟩
    · cases q
    · cases q
theorem LkR.rdD {a : Addr} {vs : List (Key × V)} (l : LkR H H2) (h : Rd H a (.dK vs)) : Rd H2 a (.dK vs) := by
  rcases h with h | ⟨o, h⟩
  · rcases l a _ h with q | ⟨kvs, q | ⟨ob, q⟩, r⟩
    · exact .inl q
    · cases q; exact r
    · cases q
  · rcases l a _ h with q | ⟨kvs, q | ⟨ob, q⟩, r⟩
    · exact .inr ⟨o, q⟩
    · cases q
    · cases q; exact r
theorem LkR.lst {a : Addr} {vs : List V} (l : LkR H H2) (h : H a = some (.lst vs)) : H2 a = some (.lst vs) := by
  rcases l a _ h with q | ⟨kvs, q | ⟨ob, q⟩, _⟩
  · exact q
  · cases q
  · cases q
theorem LkR.ext {a : Addr} {φ : Heap → Prop} (l : LkR H H2) (h : H a = some (.ext φ)) : H2 a = some (.ext φ) := by
  rcases l a _ h with q | ⟨kvs, q | ⟨ob, q⟩, _⟩
  · exact q
  · cases q
  · cases q
theorem LkR.tbl {a : Addr} {φ : Array Value} (l : LkR H H2) (h : H a = some (.tbl φ)) : H2 a = some (.tbl φ) := by
  rcases l a _ h with q | ⟨kvs, q | ⟨ob, q⟩, _⟩
  · exact q
  · cases q
  · cases q
theorem LkR.xd {a : Addr} {fs : List (Str × V)} (l : LkR H H2) (h : H a = some (.xd fs)) : H2 a = some (.xd fs) := by
  rcases l a _ h with q | ⟨kvs, q | ⟨ob, q⟩, _⟩
  · exact q
  · cases q
  · cases q
theorem LkR.ne {a : Addr} (l : LkR H H2) (h : H a ≠ none) : H2 a ≠ none := by
  cases e : H a with
  | none => exact absurd e h
  | some o =>
    rcases l a _ e with q | ⟨kvs, _, q | ⟨ob, q⟩⟩ <;> rw [q] <;> exact fun z => nomatch z
theorem LkR.hid {cl : List (Str × Addr)} (l : LkR H H2) : LkR (hid cl H) (hid cl H2) := fun a o h => by
  obtain ⟨h1, h2⟩ := hid_some h
  rw [hid_out h1]; exact l a o h2
theorem RepD.lk (l : LkR H H2) : ∀ {v : V} {d : D}, RepD g er c H ow v d → RepD g er c H2 ow v d := fun {v d} r =>
  RepD.rec (motive_1 := fun v d _ => RepD g er c H2 ow v d) (motive_2 := fun v d _ => RepDs g er c H2 ow v d) (motive_3 := fun v d _ => RepKs g er c H2 ow v d)
    .non (fun b => .bl b) (fun b => .int b) (fun b => .str b) (fun h _ r => .tup (h.elim (fun h => .inl (l.rdT h)) .inr) r) (fun h he hf _ r => .lst (l.lst h) he hf r)
    (fun h he hf nd _ r => .dic (l.rdD h) he hf nd r) (fun h hx => .fn h hx) (fun v => .any v) (fun _ r => .lab r) (fun hx h hp hd => .exc hx (l.ext h) hp (hd.up fun _ _ q => l.xd q)) .nil (fun _ _ a b => .cons a b) .nil (fun _ _ a b => .cons a b) r
theorem RepDs.lk (l : LkR H H2) : ∀ {vs : List V} {ds : List D}, RepDs g er c H ow vs ds → RepDs g er c H2 ow vs ds
  | _, _, .nil => .nil
  | _, _, .cons h r => .cons (RepD.lk l h) (RepDs.lk l r)
theorem RepKs.lk (l : LkR H H2) : ∀ {vs : List (Key × V)} {ds : List (Key × D)}, RepKs g er c H ow vs ds → RepKs g er c H2 ow vs ds
  | _, _, .nil => .nil
  | _, _, .cons h r => .cons (RepD.lk l h) (RepKs.lk l r)
theorem CellsO.lk {cl : List (Str × Addr)} (l : LkR H H2) : ∀ {xs : List Str} {vs : List V}, CellsO H cl xs vs → CellsO H2 cl xs vs
  | _, _, .nil => .nil
  | _, _, .cons h1 h2 h3 h4 r => .cons h1 (l.ext h2) h3 h4 (CellsO.lk l r)
mutual
theorem RepV.lk : ∀ {H H2 : Hp} {v : V} {d : D}, LkR H H2 → RepV g er c ow H v d → RepV g er c ow H2 v d
  | _, _, _, _, l, .d h => .d (RepD.lk l h)
  | _, _, _, _, l, .sta => .sta
  | _, _, _, _, l, .clo hL hj h1 hc ha hv r => .clo hL hj (l.ext h1) (l.ext hc) (fun p hp => let ⟨o, q, z⟩ := ha p hp; ⟨o, l.ext q, z⟩) (CellsO.lk l hv) (RepVs.lk l.hid r)
theorem RepVs.lk : ∀ {H H2 : Hp} {vs : List V} {ds : List D}, LkR H H2 → RepVs g er c ow H vs ds → RepVs g er c ow H2 vs ds
  | _, _, _, _, _, .nil => .nil
  | _, _, _, _, l, .cons h r => .cons (RepV.lk l h) (RepVs.lk l r)
end
theorem RepFs.lk (l : LkR H H2) {vs : List (Str × V)} {ds : List (Str × D)} (h : RepFs g er c ow H vs ds) : RepFs g er c ow H2 vs ds := by
  induction h with
  | nil => exact .nil
  | cons h r ih => exact .cons (RepD.lk l h) ih
theorem RepEnv.lk (l : LkR H H2) (E : RepEnv g er c H ρ σ) (ho : ∀ a, Ow ρ σ a → H2 a = H a) : RepEnv g er c H2 ρ σ where
  len := E.len
  val := fun i d h => let ⟨v, h1, h2⟩ := E.val i d h; ⟨v, h1, RepV.lk l h2⟩
  ol := fun i e xs h => let ⟨a, vs, h1, h2, h3, h4, h5⟩ := E.ol i e xs h; ⟨a, vs, h1, l.lst h2, h3, RepDs.lk l h4, h5⟩
  od := fun i e xs h => let ⟨a, vs, h1, h2, h3, h4, h5, h6⟩ := E.od i e xs h; ⟨a, vs, h1, by rw [ho a ⟨i, .inr ⟨_, _, h⟩, h1⟩]; exact h2, h3, h4, RepKs.lk l h5, h6⟩
  inj := E.inj
theorem HpOk.lk (l : LkR H H2) (P : HpOk g er H μ) : HpOk g er H2 μ :=
  ⟨l.lst P.sa, l.lst P.sb, P.ne, P.mu, fun a h => l.ne (P.er a h), fun p hp => let ⟨ps, h1, h2, h3⟩ := P.tabs p hp; ⟨ps, l.tbl h1, h2, fun pos cv e => let ⟨c, e1, e2⟩ := h3 pos cv e; ⟨c, e1, l.ext e2⟩⟩, fun a h => l.ne (P.av a h), P.nav⟩
theorem lk_upd {d : Addr} {kvs : List (Key × V)} {ob : Obj} (h : H d = some (.dK kvs)) : LkR H (upd H d (.frz ob (.dK kvs))) := fun a o e => by
  by_cases z : a = d
  · rw [z, h] at e; cases e
    exact .inr ⟨kvs, .inl rfl, .inr ⟨ob, by rw [z, upd_same]⟩⟩
  · exact .inl (by rw [upd_ne z]; exact e)
theorem lk_back {d : Addr} {kvs : List (Key × V)} {ob : Obj} (h : H d = some (.frz ob (.dK kvs))) : LkR H (upd H d (.dK kvs)) := fun a o e => by
  by_cases z : a = d
  · rw [z, h] at e; cases e
    exact .inr ⟨kvs, .inr ⟨ob, rfl⟩, .inl (by rw [z, upd_same])⟩
  · exact .inl (by rw [upd_ne z]; exact e)
/-- what was done under a lock, without it -/
theorem NxS.unlk {d : Addr} {kvs : List (Key × V)} {ob : Obj} {σ' : St} {er' : Er} {H' : Hp} {ρ' : Ro} {μ' : Mu} (hd : H d = some (.dK kvs)) (nd : ¬ Ow ρ σ d) (m : NxS g σ er (upd H d (.frz ob (.dK kvs))) ρ μ σ' er' H' ρ' μ') (hs : d ≠ g.sa ∧ d ≠ g.sb) : H' d = some (.frz ob (.dK kvs)) ∧ LkR H' (upd H' d (.dK kvs)) ∧ NxS g σ er H ρ μ σ' er' (upd H' d (.dK kvs)) ρ' μ' := by
  have e : H' d = some (.frz ob (.dK kvs)) := m.x.same d _ upd_same nd hs.1 hs.2 rfl
  have lk := lk_back e
  have nd' : ¬ Ow ρ' σ' d := fun z => by
    rcases m.env.owl d z with ⟨vs, q⟩ | ⟨vs, q⟩ <;> rw [e] at q <;> cases q
  refine ⟨e, lk, ⟨fun a o h n1 n2 n3 t => ?_, fun a h => ?_, m.x.ere, m.x.cc, fun a e h => ?_, fun a o u h => ?_⟩, m.env.lk lk (fun a h => by rw [upd_ne (fun z => nd' (by rw [← z]; exact h))]), m.hp.lk lk, fun a h => ?_⟩
  · by_cases z : a = d
    · rw [z, hd] at h; cases h
      rw [z, upd_same]
    · rw [upd_ne z]; exact m.x.same a o (by rw [upd_ne z]; exact h) n1 n2 n3 t
  · exact lk.ne (m.x.dom a ((lk_upd hd).ne h))
  · exact m.x.new a e ((lk_upd hd).ne h)
  · by_cases z : a = d
    · rw [z, upd_same] at h; cases h
    · rw [upd_ne z] at h
      have q := m.x.nfz a o u h
      rw [upd_ne z] at q; exact q
  · rcases m.ow a h with q | q
    · exact .inl q
    · right
      by_cases z : a = d
      · rw [z, upd_same] at q; cases q
      · rw [upd_ne z] at q; exact q
theorem takes_lock {d : Addr} {u : HO} {ob : Obj} (tk : Takes X W) (hn : ∀ o' u', X.H_0 d ≠ some (.frz o' u')) : Takes X (fun cls dd σ H => H d = some (.frz ob u) ∧ W cls dd σ (upd H d u)) := by
  intro v s' ⟨a, B, sI, pins, σ, H, cls, dd, e, I, nb, up, sky, na, os, ag, e2, w⟩
  exact tk v s' ⟨a, B, sI, pins, σ, upd H d u, cls, dd, e, I.unlock e2 hn, nb, up, sky, by rw [upd_ne (fun z => by rw [z, e2] at na; cases na)]; exact na, os, ag, w⟩
/-- a statement's end under a lock -/
theorem DenS.lock {d : Addr} {kvs : List (Key × V)} {ob : Obj} {r : Rs Fl} {Z : Ends} (hd : H d = some (.dK kvs)) (nd : ¬ Ow ρ σ d) (hs : d ≠ g.sa ∧ d ≠ g.sb) (h : DenS g W σ er H ρ μ r Z) :
    DenS g (fun cls dd σ H => H d = some (.frz ob (.dK kvs)) ∧ W cls dd σ (upd H d (.dK kvs))) σ er (upd H d (.frz ob (.dK kvs))) ρ μ r
      ⟨fun σ' H' => H' d = some (.frz ob (.dK kvs)) ∧ Z.nx σ' (upd H' d (.dK kvs)), fun v H' => H' d = some (.frz ob (.dK kvs)) ∧ Z.rt v (upd H' d (.dK kvs)), fun σ' H' => H' d = some (.frz ob (.dK kvs)) ∧ Z.bk σ' (upd H' d (.dK kvs)), fun σ' H' => H' d = some (.frz ob (.dK kvs)) ∧ Z.ct σ' (upd H' d (.dK kvs))⟩ := by
  cases r with
  | ok o ρ' μ' =>
    cases o with
    | nx => exact fun σ' H' er' m => let ⟨e, l, m'⟩ := NxS.unlk hd nd m hs; ⟨e, h σ' _ er' m'⟩
    | rt d => exact fun v σ' H' er' m q => let ⟨e, l, m'⟩ := NxS.unlk hd nd m hs; ⟨e, h v σ' _ er' m' (RepD.lk l q)⟩
  | ex x fs ρ' μ' => exact fun cls dd σ' H' er' m q => let ⟨e, l, m'⟩ := NxS.unlk hd nd m hs; ⟨e, h cls dd σ' _ er' m' (by
      obtain ⟨C, vs, h1, h2, h3, h4⟩ := q
      refine ⟨C, vs, h1, h2, ?_, h4.lk l⟩
      rcases l dd _ h3 with q | ⟨kvs', q | ⟨ob', q⟩, _⟩
      · exact q
      · cases q
      · cases q)⟩
  | no => exact h

/-! ### for -/
/-- a target -/
def RunG (X : Cx) (tg : Expr) : TG := fun v σ H Q => ∀ (pins : List (Addr × Obj)) (s : Shared) (u : Value), Inv X pins σ H s → RelV v u → wpAny (model X.prog X.w) X.A (assign tg X.env u) (fun _ s' => ∃ σ' H', Inv X pins σ' H' s' ∧ Q σ' H') X.xe s
theorem pgR : PG X tg (RunG X tg) := ⟨fun pins s σ H v u Q I r h => h pins s u I r⟩
theorem RunG.of {G : TG} {v : V} {Q : St → Hp → Prop} (h : PG X tg G) (q : G v σ H Q) : RunG X tg v σ H Q := fun pins s u I r => h.run pins s σ H v u Q I r q
def OkG (g : Gd) (X : Cx) (tg : Expr) (is : List Nat) (t : D → Ro → Option Ro) : Prop := ∀ (av : Addr → Prop) (σ : St) (er : Er) (H : Hp) (ρ ρ' : Ro) (μ : Mu) (v : V) (d : D) (Q : St → Hp → Prop), RepEnv (g.at av) er μ.ec H ρ σ → HpOk (g.at av) er H μ → RepD (g.at av) er μ.ec H (Ow ρ σ) v d → t d ρ = some ρ' →
  (∀ σ', NxS (g.at av) σ er H ρ μ σ' er H ρ' μ → (∀ j, j ∉ is → σ'[j]? = σ[j]?) → σ'.length = σ.length → Q σ' H) → RunG X tg v σ H Q
def tNm (i : Nat) : D → Ro → Option Ro := fun d ρ => some (ρ.set i (.val d))
theorem OkG.nm {i : Nat} {x : Str} {pos : Pos} (C : Cxt g bl n N sc X) (hi : N[i]? = some x) (hl : Loc sc x) (hf : X.fn x = true ∨ X.env.scope.names.lookup x = some .local) : OkG g X (.Name x pos) [i] (tNm i) := by
  intro av σ er H ρ ρ' μ v d Q E P r e q
  refine .of (pg_name C.ndup (C.at hi) (C.loc hl) hf) ?_
  cases e
  exact q _ (nxs_val E P (.d r)) (fun j hj => set_get_ne (fun z => hj (by rw [z]; simp))) (by rw [List.length_set])
def tUn (is : List Nat) : D → Ro → Option Ro := fun d ρ => match d with
  | .tup ds => setVals is ds ρ
  | _ => none
inductive NmTf (X : Cx) (N : List Str) (sc : Scope) : List Expr → List Nat → Prop
  | nil : NmTf X N sc [] []
  | cons {x : Str} {i : Nat} {p : Pos} {es : List Expr} {is : List Nat} (hi : N[i]? = some x) (hl : Loc sc x) (hf : X.fn x = true ∨ X.env.scope.names.lookup x = some .local) (r : NmTf X N sc es is) : NmTf X N sc (.Name x p :: es) (i :: is)
theorem pgsF {is : List Nat} {es : List Expr} (C : Cxt g bl n N sc X) (h : NmTf X N sc es is) : ∃ t : TGs, PGs X es t ∧ ∀ (av : Addr → Prop) (σ : St) (er : Er) (H : Hp) (ρ ρ' : Ro) (μ : Mu) (vs : List V) (ds : List D) (Q : St → Hp → Prop), RepEnv (g.at av) er μ.ec H ρ σ → HpOk (g.at av) er H μ → RepDs (g.at av) er μ.ec H (Ow ρ σ) vs ds → setVals is ds ρ = some ρ' →
    (∀ σ', NxS (g.at av) σ er H ρ μ σ' er H ρ' μ → (∀ j, j ∉ is → σ'[j]? = σ[j]?) → σ'.length = σ.length → Q σ' H) → t vs σ H Q := by
  induction h with
  | nil =>
    refine ⟨_, pgs_nil, fun av σ er H ρ ρ' μ vs ds Q E P r e q => ?_⟩
    cases r with
    | nil => cases e; exact ⟨rfl, q σ (.refl E P) (fun _ _ => rfl) rfl⟩
    | cons h r => cases e
  | @cons x i p es is hi hl hf r ih =>
    obtain ⟨t, h1, h2⟩ := ih
    refine ⟨_, pgs_cons (pg_name C.ndup (C.at hi) (C.loc hl) hf) h1, fun av σ er H ρ ρ' μ vs ds Q E P rr e q => ?_⟩
    cases rr with
    | nil => cases e
    | @cons v d vs ds h rr =>
      have m := nxs_val (i := i) E P (.d h)
      refine ⟨v, vs, rfl, h2 av _ er H _ ρ' μ vs ds Q m.env m.hp ?_ e fun σ' m' hk hl => q σ' (m.trans m') (fun j hj => ?_) (by rw [hl, List.length_set])⟩
      · exact RepDs.less (fun a => ow_val rfl) rr
      · rw [hk j (fun z => hj (List.mem_cons_of_mem _ z)), set_get_ne (fun z => hj (by rw [z]; simp))]
theorem OkG.tup {is : List Nat} {es : List Expr} {k : Nat} {pos : Pos} (C : Cxt g bl n N sc X) (T : NmTf X N sc es is) (hn : (assignEach es X.env).length = is.length := by rfl) (hst : (assignEach es X.env).findIdx? (·.1) = none := by rfl) : OkG g X (.Tuple es k pos) is (tUn is) := by
  obtain ⟨t, p1, p2⟩ := pgsF C T
  intro av σ er H ρ ρ' μ v d Q E P r e q
  refine .of (pg_tup C.calm p1 hn hst) ?_
  unfold tUn at e
  cases d with
  | tup ds =>
    cases r with
    | tup hq rr => exact ⟨_, _, rfl, by rw [C.hK]; exact hq, by rw [rr.length, ← setVals_len e], p2 av σ er H ρ ρ' μ _ ds Q E P rr e q⟩
  | _ => cases e
def forR (t : D → Ro → Option Ro) (body : Ro → Mu → Rs Fl) : List D → Ro → Mu → Rs Fl
  | [], ρ, μ => .ok .nx ρ μ
  | d :: ds, ρ, μ => match t d ρ with
    | some ρ1 => (body ρ1 μ).bind fun o ρ2 μ2 => match o with
      | .nx => forR t body ds ρ2 μ2
      | .rt d => .ok (.rt d) ρ2 μ2
    | none => .no
theorem WalkAt.nx {J : It} {i : Nat} {ds : List D} {x : V} {H' : Hp} (E : RepEnv g er μ.ec H ρ σ) (P : HpOk g er H μ) (h : H' = H ∨ ∃ p vs, H p = none ∧ H' = upd H p (.tup vs)) : Nx g σ er H ρ μ er H' ρ μ := by
  rcases h with rfl | ⟨p, vs, hp, rfl⟩
  · exact .refl E P
  · exact nx_new E P hp
/-- the loop itself -/
theorem for_core {is : List Nat} {t : D → Ro → Option Ro} {fb : Ro → Mu → Rs Fl} {body : List Stmt} {J : It} {ds : List D} {Z : Ends} {σ0 : St} {er0 : Er} {H0 : Hp} {ρ0 : Ro} {μ0 : Mu}
    (hG : OkG g X tg is t)
    (Ob : OkSs g X body fb) (tk : Takes X W) (E : RepEnv (g.at av) er0 μ0.ec H0 ρ0 σ0) (P : HpOk (g.at av) er0 H0 μ0) (wk : Walks (g.at av) (Ow ρ0 σ0) er0 μ0.ec H0 J ds) (h : DenS (g.at av) W σ0 er0 H0 ρ0 μ0 (forR t fb ds ρ0 μ0) Z) :
    ∃ Wm : Nat → Nat → St → Hp → Prop, (∃ m, Wm 0 m σ0 H0) ∧ ∀ i m σ H, Wm i m σ H →
      (J.stop i H ∧ Z.nx σ H) ∨ (J.go i H ∧ ∃ Nx : St → Hp → Prop, (∀ σ' H', Nx σ' H' → ∃ m', m' < m ∧ Wm (i + 1) m' σ' H') ∧ ∀ x H', J.yld i H x H' → RunG X tg x σ H' fun σ2 H2 => RunSs X body { Z with nx := Nx, ct := Nx, bk := Z.nx } σ2 H2) := by
  refine ⟨fun i m σ H => m = ds.length - i ∧ i ≤ ds.length ∧ ∃ er ρ μ, NxS (g.at av) σ0 er0 H0 ρ0 μ0 σ er H ρ μ ∧ DenS (g.at av) W σ er H ρ μ (forR t fb (ds.drop i) ρ μ) Z, ⟨ds.length, by simp, Nat.zero_le _, er0, ρ0, μ0, .refl E P, h⟩, ?_⟩
  rintro i m σ H ⟨rfl, hi, er, ρ, μ, mm, hh⟩
  have w := wk av (Ow ρ σ) er μ.ec H i (fun a z => .inl z) mm.x mm.ow mm.env.owl mm.hp.sal mm.hp.av
  by_cases hlt : i < ds.length
  · right
    obtain ⟨w1, w2⟩ := w.2 hlt
    have ed : ds.drop i = ds[i] :: ds.drop (i + 1) := List.drop_eq_getElem_cons hlt
    rw [ed] at hh
    unfold forR at hh
    refine ⟨w1, fun σ' H' => ds.length - (i + 1) = ds.length - (i + 1) ∧ i + 1 ≤ ds.length ∧ ∃ er ρ μ, NxS (g.at av) σ0 er0 H0 ρ0 μ0 σ' er H' ρ μ ∧ DenS (g.at av) W σ' er H' ρ μ (forR t fb (ds.drop (i + 1)) ρ μ) Z, fun σ' H' q => ⟨_, by omega, q⟩, fun x H' y => ?_⟩
    obtain ⟨w3, w4⟩ := w2 x H' y
    have n1 := WalkAt.nx (J := J) (i := i) (ds := ds) (x := x) mm.env mm.hp w3
    have rx := w4 _ (List.getElem?_eq_getElem hlt)
    cases e1 : t ds[i] ρ with
    | none => rw [e1] at hh; exact hh.elim
    | some ρ1 =>
      rw [e1] at hh
      refine hG av σ er H' ρ ρ1 μ x ds[i] _ n1.env n1.hp rx e1 fun σ1 m1 _ _ => ?_
      have hh1 := DenS.nxs (n1.s.trans m1) hh
      refine Ob av W σ1 er H' ρ1 μ _ tk m1.env m1.hp ?_
      cases e2 : fb ρ1 μ with
      | no => simp only [e2] at hh1; exact hh1
      | ex x fs ρ' μ' => simp only [e2] at hh1; exact hh1
      | ok o ρ2 μ2 =>
        simp only [e2, Rs.bind_ok] at hh1
        cases o with
        | nx => exact fun σ2 H2 er2 m2 => ⟨rfl, hlt, er2, ρ2, μ2, (mm.trans (n1.s.trans m1)).trans m2, DenS.nxs m2 hh1⟩
        | rt d => exact hh1
  · left
    have e : i = ds.length := by omega
    subst e
    rw [List.drop_length] at hh
    exact ⟨w.1 (Nat.le_refl _), hh σ H er (.refl mm.env mm.hp)⟩
def sFor (fi : Ro → Mu → Rs (List D)) (t : D → Ro → Option Ro) (fb : Ro → Mu → Rs Fl) : Ro → Mu → Rs Fl := fun ρ μ => (fi ρ μ).bind fun ds ρ1 μ1 => forR t fb ds ρ1 μ1
theorem OkS.for {is : List Nat} {body : List Stmt} {fi : Ro → Mu → Rs (List D)} {t : D → Ro → Option Ro} {fb : Ro → Mu → Rs Fl} {pos : Pos} (C : Cxt g bl n N sc X) (S : CxS X) (Oi : OkI g X tg iter fi) (Og : OkG g X tg is t) (Ob : OkSs g X body fb) (hs : ∀ x, foldedSetIterable iter X.env x = pure x := by intro _; rfl) : OkS g X (.For tg iter body [] pos) (sFor fi t fb) := by
  intro av W σ er H ρ μ Z tk E P h
  refine .of (ps_for S.own C.calm piR pgR pssR hs) (Oi av W σ er H ρ μ _ tk E P (h.bind fun ds ρ1 μ1 H1 er1 _ n1 h1 J wk => ?_))
  exact for_core Og Ob tk n1.env n1.hp wk h1
/-- the items of a value, a dict too -/
def itemsK : D → Option (List D)
  | .dic _ kvs => some (kvs.map fun kv => dKey kv.1)
  | d => itemsD d
theorem walks_keys {d : Addr} {ob : Obj} {vs : List (Key × V)} {ds : List (Key × D)} (h : H d = some (.frz ob (.dK vs))) (no : ¬ ow d) (hs : d ≠ g.sa ∧ d ≠ g.sb) (r : RepKs g er c H ow vs ds) : Walks g ow er c H (Itk d ob vs) (ds.map fun kv => dKey kv.1) := by
  intro av' ow1 er1 c1 H1 i h1 x hw _ _ _
  have e : H1 d = some (.frz ob (.dK vs)) := x.same d _ h no hs.1 hs.2 rfl
  have r' : RepDs g er c H ow (vs.map fun kv => kV kv.1) (ds.map fun kv => dKey kv.1) := reps_keys r
  have hl := r'.length
  rw [List.length_map] at hl
  rw [WalkAt, ← hl]
  refine ⟨fun z => ⟨e, z⟩, fun z => ⟨⟨e, z⟩, fun y H' q => ⟨.inl q.1, fun d' hd => ?_⟩⟩⟩
  obtain ⟨rfl, k, v, q1, rfl⟩ := q
  rw [List.getElem?_map] at hd
  obtain ⟨kv, hk, rfl⟩ := Option.map_eq_some_iff.mp hd
  have ek : kv.1 = k := by
    have := r.keys
    have e2 : (vs.map (·.1))[i]? = (ds.map (·.1))[i]? := by rw [this]
    rw [List.getElem?_map, List.getElem?_map, q1, hk] at e2
    exact (Option.some.inj e2).symm
  rw [ek]
  cases k with
  | inl i => exact .int i
  | inr s => exact .str s
/-- the items of the value at slot i -/
def evK1 (i : Nat) : Ro → Mu → Rs (List D) := fun ρ μ => (datR (.own i) ρ μ).bind fun d ρ1 μ1 => match itemsK d with
  | some xs => .ok xs ρ1 μ1
  | none => .no
theorem vis_own {i : Nat} {x : Str} {pos : Pos} (C : Cxt g bl n N sc X) (hi : N[i]? = some x) (hv : Vis sc x) (hd : (x == ("__debug__" : Str)) = false) (hcd : (x == ("__classdict__" : Str)) = false) {v : V} {Q : VK} (hs : σ[i]? = some (some v)) (q : Q v H) : RunE X (.Name x pos) σ H Q :=
  .of (pe_var (i := i) (C.at hi) (by rw [C.hsc]; exact hv) hd hcd) ⟨_, hs, q⟩
/-- what stands at slot i, as data -/
theorem slot_dat {i : Nat} {d' : D} {ρ' : Ro} (E : RepEnv g er μ.ec H ρ σ) (P : HpOk g er H μ) (e : fz (.own i) ρ = some (d', ρ')) : ∃ v, σ[i]? = some (some v) ∧ Nx g σ er H ρ μ er H ρ' μ ∧ RepD g er μ.ec H (Ow ρ' σ) v d' := by
  have hs : ∃ v, σ[i]? = some (some v) := by
    rw [fz_own] at e
    cases q : ρ[i]? with
    | none => rw [q] at e; cases e
    | some sv =>
      cases sv with
      | un => rw [q] at e; cases e
      | val d => obtain ⟨v, h1, _⟩ := E.val i d q; exact ⟨v, h1⟩
      | ol e' xs => obtain ⟨a, vs, h1, _⟩ := E.ol i e' xs q; exact ⟨_, h1⟩
      | od e' xs => obtain ⟨a, vs, h1, _⟩ := E.od i e' xs q; exact ⟨_, h1⟩
  obtain ⟨v, hs⟩ := hs
  exact ⟨v, hs, fz_ok E P (d := .own i) hs e⟩
theorem OkS.forK {i : Nat} {x : Str} {is : List Nat} {body : List Stmt} {t : D → Ro → Option Ro} {fb : Ro → Mu → Rs Fl} {p pos : Pos} (C : Cxt g bl n N sc X) (S : CxS X) (hi : N[i]? = some x) (hv : Vis sc x) (hd : (x == ("__debug__" : Str)) = false) (hcd : (x == ("__classdict__" : Str)) = false) (Og : OkG g X tg is t) (Ob : OkSs g X body fb)
    (hs : ∀ y, foldedSetIterable (.Name x p) X.env y = pure y := by intro _; rfl) : OkS g X (.For tg (.Name x p) body [] pos) (sFor (evK1 i) t fb) := by
  intro av W σ er H ρ μ Z tk E P h
  unfold sFor evK1 datR at h
  cases e1 : fz (.own i) ρ with
  | none => rw [e1] at h; exact h.elim
  | some p =>
    obtain ⟨d', ρ1⟩ := p
    rw [e1] at h
    simp only [Rs.bind_ok] at h
    obtain ⟨v, hsl, n1, r1⟩ := slot_dat E P e1
    have h1 := DenS.nx n1 h
    cases d' with
    | dic e0 kvs =>
      simp only [itemsK, Rs.bind_ok] at h1
      cases r1 with
      | dic ha he hf nd r =>
        rename_i a vs
        intro pins s I
        rcases ha with ha | ⟨ob, ha⟩
        · have hn := I.nofrz ha True.intro
          refine (ps_lock (ps_for S.own C.calm piR pgR pssR hs)).run pins s σ H Z I ⟨a, .dK vs, ha, True.intro, fun ob => ?_⟩
          have l : LkR H (upd H a (.frz ob (.dK vs))) := lk_upd ha
          have E2 : RepEnv (g.at av) er μ.ec (upd H a (.frz ob (.dK vs))) ρ1 σ := n1.env.lk l fun b hb => by rw [upd_ne (fun z => hf.2.1 (by rw [← z]; exact hb))]
          refine .of (pi_any3 peR) (vis_own C hi hv hd hcd hsl (.inr (.inr (.inr ⟨a, ob, vs, rfl, upd_same, ?_⟩))))
          exact for_core (W := fun cls dd σ H => H a = some (.frz ob (.dK vs)) ∧ W cls dd σ (upd H a (.dK vs))) Og Ob (takes_lock tk hn) E2 (n1.hp.lk l) (walks_keys upd_same hf.2.1 hf.2.2 (RepKs.lk l r)) (DenS.lock ha hf.2.1 hf.2.2 h1)
        · refine (ps_for S.own C.calm piR pgR pssR hs).run pins s σ H Z I ?_
          refine .of (pi_any3 peR) (vis_own C hi hv hd hcd hsl (.inr (.inr (.inr ⟨a, ob, vs, rfl, ha, ?_⟩))))
          exact for_core Og Ob tk n1.env n1.hp (walks_keys ha hf.2.1 hf.2.2 r) h1
    | lst e0 xs =>
      simp only [itemsK, itemsD, Rs.bind_ok] at h1
      cases r1 with
      | lst ha he hf r => exact .of (ps_for S.own C.calm piR pgR pssR hs) (.of (pi_any3 peR) (vis_own C hi hv hd hcd hsl (.inl ⟨_, rfl, ⟨_, .of ha⟩, for_core Og Ob tk n1.env n1.hp (walks_list C.hK ha hf r n1.env.owl n1.hp.sal) h1⟩)))
    | tup xs =>
      simp only [itemsK, itemsD, Rs.bind_ok] at h1
      cases r1 with
      | tup ha r => exact .of (ps_for S.own C.calm piR pgR pssR hs) (.of (pi_any3 peR) (vis_own C hi hv hd hcd hsl (.inr (.inl ⟨_, rfl, ⟨_, by rw [C.hK]; exact ha⟩, for_core Og Ob tk n1.env n1.hp (walks_tup ha r n1.env.owl n1.hp.sal C.hK) h1⟩))))
    | str z =>
      simp only [itemsK, itemsD, Rs.bind_ok] at h1
      cases r1
      exact .of (ps_for S.own C.calm piR pgR pssR hs) (.of (pi_any3 peR) (vis_own C hi hv hd hcd hsl (.inr (.inr (.inl ⟨z, rfl, for_core Og Ob tk n1.env n1.hp walks_str h1⟩)))))
    | _ => exact h1.elim
end
end GW

set_option maxHeartbeats 2000000
namespace GW
open PySem PySem.Spec PyProof.Rows L2
section
variable {g : Gd} {X : Cx} {W : WX} {σ : St} {er : Er} {H H2 : Hp} {ρ : Ro} {μ : Mu} {c : Nat} {ow ow' : Addr → Prop} {av : Addr → Prop} {bl : List Str} {n : Nat} {N : List Str} {sc : Scope} {α β : Type} {tg iter : Expr}

/-! ### an object that others own is written -/
def LD (o : HO) : Prop := (∃ vs, o = .lst vs) ∨ ∃ vs, o = HO.dK vs
theorem free_in {p : Addr} (a : Addr) (_ : H a ≠ none) (f : Free (g.and p) ow a) : Free ((g.and p).at g.av) (fun b => ow b ∨ b = p) a := ⟨fun z => f.1 (.inl z), fun z => z.elim f.2.1 fun e => f.1 (.inr e), f.2.2⟩
theorem free_out {p : Addr} (a : Addr) (_ : H a ≠ none) (f : Free g (fun b => ow b ∨ b = p) a) : Free (g.and p) ow a := ⟨fun z => z.elim f.1 fun e => f.2.1 (.inr e), fun z => f.2.1 (.inl z), f.2.2⟩
theorem owl_in {p : Addr} {o : HO} (hl : OwL ow H) (hp : H p = some o) (ho : LD o) : OwL (fun b => ow b ∨ b = p) H := fun a z => z.elim (hl a) fun e => by
  rw [e, hp]
  rcases ho with ⟨vs, rfl⟩ | ⟨vs, rfl⟩
  · exact .inl ⟨vs, rfl⟩
  · exact .inr ⟨vs, rfl⟩
theorem RepDs.atp {p : Addr} {o o' : HO} {vs : List V} {ds : List D} (hl : OwL ow H) (hs : SaL g H) (hp : H p = some o) (ho : LD o) (r : RepDs (g.and p) er c H ow vs ds) (hz : ∀ ob u, o' ≠ .frz ob u := by intro _ _ z; cases z) : RepDs (g.and p) er c (upd H p o') ow vs ds :=
  RepDs.cv (g := g) free_out (RepDs.ext (g := g) (ow := fun b => ow b ∨ b = p) (ext_mut (.inr rfl) hz) (owl_in hl hp ho) hs (fun _ => .inl) (RepDs.cv (g := g.and p) (av' := g.av) free_in r))
theorem RepKs.atp {p : Addr} {o o' : HO} {vs : List (Key × V)} {ds : List (Key × D)} (hl : OwL ow H) (hs : SaL g H) (hp : H p = some o) (ho : LD o) (r : RepKs (g.and p) er c H ow vs ds) (hz : ∀ ob u, o' ≠ .frz ob u := by intro _ _ z; cases z) : RepKs (g.and p) er c (upd H p o') ow vs ds :=
  RepKs.cv (g := g) free_out (RepKs.ext (g := g) (ow := fun b => ow b ∨ b = p) (ext_mut (.inr rfl) hz) (owl_in hl hp ho) hs (fun _ => .inl) (RepKs.cv (g := g.and p) (av' := g.av) free_in r))
theorem RepD.atp {p : Addr} {o o' : HO} {v : V} {d : D} (hl : OwL ow H) (hs : SaL g H) (hp : H p = some o) (ho : LD o) (r : RepD (g.and p) er c H ow v d) (hz : ∀ ob u, o' ≠ .frz ob u := by intro _ _ z; cases z) : RepD (g.and p) er c (upd H p o') ow v d :=
  RepD.cv (g := g) free_out (RepD.ext (g := g) (ow := fun b => ow b ∨ b = p) (ext_mut (.inr rfl) hz) (owl_in hl hp ho) hs (fun _ => .inl) (RepD.cv (g := g.and p) (av' := g.av) free_in r))
theorem RepV.atp {p : Addr} {o o' : HO} {v : V} {d : D} (hl : OwL ow H) (hs : SaL g H) (hp : H p = some o) (ho : LD o) (r : RepV (g.and p) er c ow H v d) (hz : ∀ ob u, o' ≠ .frz ob u := by intro _ _ z; cases z) : RepV (g.and p) er c ow (upd H p o') v d :=
  RepV.cv (g := g) free_out (RepV.ext (g := g) (ow := fun b => ow b ∨ b = p) (ext_mut (.inr rfl) hz) (owl_in hl hp ho) hs (fun _ => .inl) (RepV.cv (g := g.and p) (av' := g.av) free_in r))
theorem RepEnv.atp {p : Addr} {o o' : HO} (hs : SaL g H) (hp : H p = some o) (ho : LD o) (E : RepEnv (g.and p) er c H ρ σ) (hz : ∀ ob u, o' ≠ .frz ob u := by intro _ _ z; cases z) : RepEnv (g.and p) er c (upd H p o') ρ σ where
  len := E.len
  val := fun i d h => let ⟨v, h1, h2⟩ := E.val i d h; ⟨v, h1, RepV.atp E.owl hs hp ho h2 hz⟩
  ol := fun i e xs h => let ⟨a, vs, h1, h2, h3, h4, h5⟩ := E.ol i e xs h; ⟨a, vs, h1, by rw [upd_ne (fun z => h5.1 (.inr z))]; exact h2, h3, RepDs.atp E.owl hs hp ho h4 hz, h5⟩
  od := fun i e xs h => let ⟨a, vs, h1, h2, h3, h4, h5, h6⟩ := E.od i e xs h; ⟨a, vs, h1, by rw [upd_ne (fun z => h6.1 (.inr z))]; exact h2, h3, h4, RepKs.atp E.owl hs hp ho h5 hz, h6⟩
  inj := E.inj
theorem HpOk.atp {p : Addr} {o o' : HO} (hp : H p = some o) (ho : LD o) (n1 : p ≠ g.sa) (n2 : p ≠ g.sb) (P : HpOk g er H μ) : HpOk g er (upd H p o') μ :=
  ⟨by rw [upd_ne (Ne.symm n1)]; exact P.sa, by rw [upd_ne (Ne.symm n2)]; exact P.sb, P.ne, P.mu, fun a h => upd_some a (P.er a h), tabs_mut P.tabs hp ho, fun a h => upd_some a (P.av a h), P.nav⟩
/-! ### a block's own names -/
def wipeR (ρ : Ro) : List Nat → Ro
  | [] => ρ
  | v :: vs => (wipeR ρ vs).set v .un
theorem wipeR_get {j : Nat} {sv : SV} : ∀ {vs : List Nat}, (wipeR ρ vs)[j]? = some sv → (j ∈ vs ∧ sv = .un) ∨ (j ∉ vs ∧ ρ[j]? = some sv)
  | [], h => .inr ⟨by simp, h⟩
  | v :: vs, h => by
    rcases get_set h with ⟨rfl, e⟩ | ⟨e, h⟩
    · exact .inl ⟨by simp, e⟩
    · rcases wipeR_get (vs := vs) h with ⟨h1, h2⟩ | ⟨h1, h2⟩
      · exact .inl ⟨List.mem_cons_of_mem _ h1, h2⟩
      · exact .inr ⟨fun z => (List.mem_cons.mp z).elim e h1, h2⟩
theorem wipe_get {j : Nat} : ∀ {vs : List Nat}, j ∉ vs → (wipe σ vs)[j]? = σ[j]?
  | [], _ => rfl
  | v :: vs, h => by
    show ((wipe σ vs).set v none)[j]? = _
    rw [set_get_ne (fun z => h (by rw [z]; simp)), wipe_get (fun z => h (List.mem_cons_of_mem _ z))]
theorem wipe_in {j : Nat} : ∀ {vs : List Nat}, j ∈ vs → j < σ.length → (wipe σ vs)[j]? = some none
  | v :: vs, h, hj => by
    show ((wipe σ vs).set v none)[j]? = _
    by_cases e : j = v
    · rw [e]; exact set_get (by rw [wipe_length, ← e]; exact hj)
    · rw [set_get_ne e]; exact wipe_in ((List.mem_cons.mp h).elim (fun z => absurd z e) id) hj
theorem wipeR_length : ∀ vs : List Nat, (wipeR ρ vs).length = ρ.length
  | [] => rfl
  | v :: vs => by unfold wipeR; rw [List.length_set, wipeR_length vs]
theorem wipe_same {σ' : St} {vs : List Nat} (hl : σ'.length = (wipe σ vs).length) (h : ∀ j, j ∉ vs → σ'[j]? = (wipe σ vs)[j]?) : wipe σ' vs = wipe σ vs := by
  refine List.ext_getElem? fun j => ?_
  rw [wipe_length] at hl
  by_cases hj : j ∈ vs
  · by_cases hb : j < σ.length
    · rw [wipe_in hj hb, wipe_in hj (by omega)]
    · rw [List.getElem?_eq_none (by rw [wipe_length]; omega), List.getElem?_eq_none (by rw [wipe_length]; omega)]
  · rw [wipe_get hj, h j hj]
theorem isOw_wipe {vs : List Nat} {j : Nat} (h : isOw (wipeR ρ vs) j) : isOw ρ j ∧ j ∉ vs := by
  obtain ⟨sv, h1, h2⟩ := isOw_iff.mp h
  rcases wipeR_get h1 with ⟨_, e⟩ | ⟨e, h3⟩
  · rw [e] at h2; cases h2
  · exact ⟨isOw_iff.mpr ⟨_, h3, h2⟩, e⟩
theorem ow_wipe {vs : List Nat} {a : Addr} (h : Ow (wipeR ρ vs) (wipe σ vs) a) : Ow ρ σ a := by
  obtain ⟨j, h1, h2⟩ := h
  obtain ⟨h3, h4⟩ := isOw_wipe h1
  exact ⟨j, h3, by rw [← h2, wipe_get h4]⟩
theorem RepEnv.wiped {vs : List Nat} (E : RepEnv g er c H ρ σ) : RepEnv g er c H (wipeR ρ vs) (wipe σ vs) where
  len := by rw [wipeR_length, wipe_length, E.len]
  val := fun i d h => by
    rcases wipeR_get h with ⟨_, e⟩ | ⟨e, h⟩
    · cases e
    · obtain ⟨v, h1, h2⟩ := E.val i d h
      exact ⟨v, by rw [wipe_get e]; exact h1, RepV.less (fun a => ow_wipe) h2⟩
  ol := fun i e xs h => by
    rcases wipeR_get h with ⟨_, e⟩ | ⟨e, h⟩
    · cases e
    · obtain ⟨a, vs, h1, h2, h3, h4, h5⟩ := E.ol i _ xs h
      exact ⟨a, vs, by rw [wipe_get e]; exact h1, h2, h3, RepDs.less (fun a => ow_wipe) h4, h5⟩
  od := fun i e xs h => by
    rcases wipeR_get h with ⟨_, e⟩ | ⟨e, h⟩
    · cases e
    · obtain ⟨a, vs, h1, h2, h3, h4, h5, h6⟩ := E.od i _ xs h
      exact ⟨a, vs, by rw [wipe_get e]; exact h1, h2, h3, h4, RepKs.less (fun a => ow_wipe) h5, h6⟩
  inj := fun i j a h1 h2 h3 h4 => by
    obtain ⟨i1, i2⟩ := isOw_wipe h1
    obtain ⟨j1, j2⟩ := isOw_wipe h2
    rw [wipe_get i2] at h3
    rw [wipe_get j2] at h4
    exact E.inj i j a i1 j1 h3 h4
/-- the slots as they were -/
def unw (ρ1 : Ro) : List Nat → Ro → Ro
  | [], ρ => ρ
  | i :: is, ρ => (unw ρ1 is ρ).set i (ρ1.getD i .un)
theorem unw_get {ρ1 : Ro} {j : Nat} {sv : SV} : ∀ {vs : List Nat}, (unw ρ1 vs ρ)[j]? = some sv → (j ∈ vs ∧ sv = ρ1.getD j .un) ∨ (j ∉ vs ∧ ρ[j]? = some sv)
  | [], h => .inr ⟨by simp, h⟩
  | v :: vs, h => by
    rcases get_set h with ⟨rfl, e⟩ | ⟨e, h⟩
    · exact .inl ⟨by simp, e⟩
    · rcases unw_get (vs := vs) h with ⟨h1, h2⟩ | ⟨h1, h2⟩
      · exact .inl ⟨List.mem_cons_of_mem _ h1, h2⟩
      · exact .inr ⟨fun z => (List.mem_cons.mp z).elim e h1, h2⟩
theorem unw_length {ρ1 : Ro} : ∀ vs : List Nat, (unw ρ1 vs ρ).length = ρ.length
  | [] => rfl
  | v :: vs => by unfold unw; rw [List.length_set, unw_length vs]
def noOwn (ρ : Ro) (vs : List Nat) : Bool := vs.all fun i => !isOwn (ρ.getD i .un)
theorem noOwn_at {vs : List Nat} {j : Nat} (h : noOwn ρ vs = true) (hj : j ∈ vs) : isOwn (ρ.getD j .un) = false := by
  have := List.all_eq_true.mp h j hj
  simpa using this
theorem isOw_unw {ρ1 : Ro} {vs : List Nat} {j : Nat} (hn : noOwn ρ1 vs = true) (h : isOw (unw ρ1 vs ρ) j) : isOw ρ j ∧ j ∉ vs := by
  obtain ⟨sv, h1, h2⟩ := isOw_iff.mp h
  rcases unw_get h1 with ⟨e, q⟩ | ⟨e, h3⟩
  · rw [q, noOwn_at hn e] at h2; cases h2
  · exact ⟨isOw_iff.mpr ⟨_, h3, h2⟩, e⟩
theorem ow_unw {ρ1 : Ro} {vs : List Nat} {a : Addr} (hn : noOwn ρ1 vs = true) (h : Ow (unw ρ1 vs ρ) σ a) : Ow ρ (wipe σ vs) a := by
  obtain ⟨j, h1, h2⟩ := h
  obtain ⟨h3, h4⟩ := isOw_unw hn h1
  exact ⟨j, h3, by rw [wipe_get h4]; exact h2⟩
theorem RepEnv.unwiped {av' : Addr → Prop} {ρ1 : Ro} {er' : Er} {c' : Nat} {H' : Hp} {vs : List Nat} (E1 : RepEnv g er c H ρ1 σ) (hs : SaL g H) (hn : noOwn ρ1 vs = true) (x : Ext g (Ow ρ1 σ) er c H er' c' H') (hw : ∀ a, Ow ρ (wipe σ vs) a → Ow ρ1 σ a ∨ H a = none)
    (hav : ∀ a, av' a → g.av a ∨ H a = none) (E : RepEnv (g.at av') er' c' H' ρ (wipe σ vs)) : RepEnv (g.at av') er' c' H' (unw ρ1 vs ρ) σ where
  len := by rw [unw_length, E.len, wipe_length]
  val := fun i d h => by
    rcases unw_get h with ⟨e, q⟩ | ⟨e, h⟩
    · have q' : ρ1[i]? = some (SV.val d) := by
        rw [List.getD_eq_getElem?_getD] at q
        cases z : ρ1[i]? with
        | none => rw [z] at q; cases q
        | some sv => rw [z] at q; have q : SV.val d = sv := q; rw [← q]
      obtain ⟨v, h1, h2⟩ := E1.val i d q'
      refine ⟨v, h1, RepV.ext (g := g.at av') (ext_av (g := g) (av1 := g.av) (av2 := av') x) E1.owl hs (fun a z => hw a (ow_unw hn z)) (RepV.cv (g := g) (av' := av') (fun a ha f => ⟨fun z => (hav a z).elim f.1 ha, f.2⟩) h2)⟩
    · obtain ⟨v, h1, h2⟩ := E.val i d h
      exact ⟨v, by rw [← wipe_get e]; exact h1, RepV.less (fun a => ow_unw hn) h2⟩
  ol := fun i e xs h => by
    rcases unw_get h with ⟨e, q⟩ | ⟨e, h⟩
    · have := noOwn_at hn e; rw [← q] at this; cases this
    · obtain ⟨a, vs, h1, h2, h3, h4, h5⟩ := E.ol i _ xs h
      exact ⟨a, vs, by rw [← wipe_get e]; exact h1, h2, h3, RepDs.less (fun a => ow_unw hn) h4, h5⟩
  od := fun i e xs h => by
    rcases unw_get h with ⟨e, q⟩ | ⟨e, h⟩
    · have := noOwn_at hn e; rw [← q] at this; cases this
    · obtain ⟨a, vs, h1, h2, h3, h4, h5, h6⟩ := E.od i _ xs h
      exact ⟨a, vs, by rw [← wipe_get e]; exact h1, h2, h3, h4, RepKs.less (fun a => ow_unw hn) h5, h6⟩
  inj := fun i j a h1 h2 h3 h4 => by
    obtain ⟨i1, i2⟩ := isOw_unw hn h1
    obtain ⟨j1, j2⟩ := isOw_unw hn h2
    exact E.inj i j a i1 j1 (by rw [wipe_get i2]; exact h3) (by rw [wipe_get j2]; exact h4)
end
end GW

set_option maxHeartbeats 2000000
namespace GW
open PySem PySem.Spec PyProof.Rows L2
def noX {α : Type} (r : Rs α) : Rs α := match r with
  | .ex _ _ _ _ => .no
  | r => r
theorem noX_ok {α : Type} {r : Rs α} {a : α} {ρ : Ro} {μ : Mu} (h : noX r = .ok a ρ μ) : r = .ok a ρ μ := by
  cases r with
  | ok _ _ _ => exact h
  | ex _ _ _ _ => cases h
  | no => cases h
section
variable {g : Gd} {X : Cx} {W : WX} {σ : St} {er : Er} {H H2 : Hp} {ρ : Ro} {μ : Mu} {c : Nat} {ow ow' : Addr → Prop} {av : Addr → Prop} {bl : List Str} {n : Nat} {N : List Str} {sc : Scope} {α β : Type} {tg iter : Expr}
def RunTs (X : Cx) (ifs : List Expr) : TT := fun σ H Q => ∀ (pins : List (Addr × Obj)) (s : Shared), Inv X pins σ H s →
    wpAny (model X.prog X.w) X.A (forIn ifs true fun c r => if r = true then do let ok ← isTrue c X.env (eval c X.env); pure (ForInStep.yield ok) else pure (ForInStep.yield r)) (TP X pins σ Q) X.xe s
theorem ptsR {ifs : List Expr} : PTs X ifs (RunTs X ifs) := ⟨fun pins s σ H Q I h => h pins s I⟩
theorem RunTs.of {ifs : List Expr} {t : TT} {Q : Bool → Hp → Prop} (h : PTs X ifs t) (q : t σ H Q) : RunTs X ifs σ H Q := fun pins s I => h.run pins s σ H Q I q
def OkTs (g : Gd) (X : Cx) (ifs : List Expr) (f : Ro → Mu → Rs Bool) : Prop := ∀ (av : Addr → Prop) (W : WX) (σ : St) (er : Er) (H : Hp) (ρ : Ro) (μ : Mu) (Q : Bool → Hp → Prop), Takes X W → RepEnv (g.at av) er μ.ec H ρ σ → HpOk (g.at av) er H μ → DenT (g.at av) W σ er H ρ μ (f ρ μ) Q → RunTs X ifs σ H Q
def evYes : Ro → Mu → Rs Bool := fun ρ μ => .ok true ρ μ
theorem OkTs.nil : OkTs g X [] evYes := fun av W σ er H ρ μ Q tk E P h => .of pts_nil (h H er (.refl E P))
theorem OkTs.one {e : Expr} {f : Ro → Mu → Rs Bool} (O : OkT g X e f) : OkTs g X [e] f := fun av W σ er H ρ μ Q tk E P h => .of (pts_one ptR) (O av W σ er H ρ μ Q tk E P h)
def lcR (t : D → Ro → Option Ro) (fc : Ro → Mu → Rs Bool) (fe : Ro → Mu → Rs D) (vs : List Nat) : List D → List D → Ro → Mu → Rs (List D)
  | [], acc, ρ, μ => .ok acc ρ μ
  | d :: ds, acc, ρ, μ => match t d ρ with
    | some ρ1 => (noX (fc ρ1 μ)).bind fun b ρ2 μ2 => if b then (noX (fe ρ2 μ2)).bind fun y ρ3 μ3 => (datR y ρ3 μ3).bind fun y ρ4 μ4 => if decide (acc.length < sizeLine) then lcR t fc fe vs ds (acc ++ [y]) (wipeR ρ4 vs) μ4 else .no
      else lcR t fc fe vs ds acc (wipeR ρ2 vs) μ2
    | none => .no
/-- the iterable's items are there: the walk of a comprehension -/
theorem lc_loop {vs : List Nat} {is : List Nat} {t : D → Ro → Option Ro} {fc : Ro → Mu → Rs Bool} {fe : Ro → Mu → Rs D} {elt : Expr} {ifs : List Expr} {scope : Scope} {J : It} {ds : List D} {σ0 : St} {er0 : Er} {H0 H00 : Hp} {ρ0 : Ro} {μ0 : Mu} {Q : VK}
    (hG : ∀ (s : Shared) (H : Hp) (C : Addr) (cl : List (Str × Addr)) (fp : List Addr), OkG g (X.blk s H scope (compEnvC scope cl C X.env) fp) tg is t) (hc : ∀ (s : Shared) (H : Hp) (C : Addr) (cl : List (Str × Addr)) (fp : List Addr), OkTs g (X.blk s H scope (compEnvC scope cl C X.env) fp) ifs fc)
    (he : ∀ (s : Shared) (H : Hp) (C : Addr) (cl : List (Str × Addr)) (fp : List Addr), OkE g (X.blk s H scope (compEnvC scope cl C X.env) fp) elt fe) (hi : ∀ i ∈ is, i ∈ vs) (hn : noOwn ρ0 vs = true)
    (E0 : RepEnv (g.at av) er0 μ0.ec H0 ρ0 σ0) (P0 : HpOk (g.at av) er0 H0 μ0) (wk : Walks (g.at av) (Ow ρ0 σ0) er0 μ0.ec H0 J ds) (h00 : ∀ p, H0 p = none → H00 p = none)
    (h : DenG (g.at av) W σ0 er0 H0 ρ0 μ0 ((noX (lcR t fc fe vs ds [] (wipeR ρ0 vs) μ0)).bind fun acc ρ2 μ2 => .ok (.nl μ0.ec acc) (unw ρ0 vs ρ2) μ2) (KN (g.at av) σ0 H00 Q)) (Dd : Addr) (hD : H0 Dd = none) :
    ∃ Wm : Nat → Nat → Hp → Prop, (∃ m, Wm 0 m (upd H0 Dd (.lst []))) ∧ ∀ i m H, Wm i m H → (J.stop i H ∧ Q (.ref Dd) H) ∨ (J.go i H ∧ ∃ Nx : Hp → Prop, (∀ H', Nx H' → ∃ m', m' < m ∧ Wm (i + 1) m' H') ∧ ∀ x H', J.yld i H x H' →
      (∀ (s : Shared) (H1 : Hp) (C : Addr) (cl : List (Str × Addr)) (fp : List Addr), RunG (X.blk s H1 scope (compEnvC scope cl C X.env) fp) tg x (wipe σ0 vs) H' fun σ2 H2 => wipe σ2 vs = wipe σ0 vs ∧ ∀ (s : Shared) (H1 : Hp) (C : Addr) (cl : List (Str × Addr)) (fp : List Addr), RunTs (X.blk s H1 scope (compEnvC scope cl C X.env) fp) ifs σ2 H2 fun b H3 =>
        if b = true then ∀ (s : Shared) (H1 : Hp) (C : Addr) (cl : List (Str × Addr)) (fp : List Addr), RunE (X.blk s H1 scope (compEnvC scope cl C X.env) fp) elt σ2 H3 fun y H4 => ∃ acc, H4 Dd = some (.lst acc) ∧ acc.length < sizeLine ∧ Nx (upd H4 Dd (.lst (acc ++ [y]))) else Nx H3)) := by
  cases eR : lcR t fc fe vs ds [] (wipeR ρ0 vs) μ0 with
  | no => rw [eR] at h; exact h.elim
  | ex x fs ρ' μ' => rw [eR] at h; exact h.elim
  | ok accF ρF μF =>
  rw [eR] at h
  have h : DenG (g.at av) W σ0 er0 H0 ρ0 μ0 (.ok (.nl μ0.ec accF) (unw ρ0 vs ρF) μF) (KN (g.at av) σ0 H00 Q) := h
  have oN : ∀ b, Ow (wipeR ρ0 vs) (wipe σ0 vs) b → Ow ρ0 σ0 b := fun b => ow_wipe
  -- the state behind some turns
  let S : Nat → Hp → Prop := fun i H => i ≤ ds.length ∧ ∃ er ρ μ accV acc, Ext (g.at av) (fun b => Ow ρ0 σ0 b ∨ b = Dd) er0 μ0.ec (upd H0 Dd (.lst [])) er μ.ec H ∧ RepEnv ((g.at av).and Dd) er μ.ec H ρ (wipe σ0 vs) ∧ HpOk ((g.at av).and Dd) er H μ ∧
    (∀ b, Ow ρ (wipe σ0 vs) b → Ow ρ0 σ0 b ∨ H0 b = none) ∧ H Dd = some (.lst accV) ∧ RepDs ((g.at av).and Dd) er μ.ec H (Ow ρ (wipe σ0 vs)) accV acc ∧ lcR t fc fe vs (ds.drop i) acc ρ μ = .ok accF ρF μF
  have hl0 := E0.owl
  have sN := new_lst (vs := []) (ds := []) E0 P0 hD .nil
  have xN : Ext (g.at av) (Ow ρ0 σ0) er0 μ0.ec H0 er0 μ0.ec (upd H0 Dd (.lst [])) := ext_new _ hD
  -- from the start of all
  have x0 : ∀ {er : Er} {c : Nat} {H : Hp}, Ext (g.at av) (fun b => Ow ρ0 σ0 b ∨ b = Dd) er0 μ0.ec (upd H0 Dd (.lst [])) er c H → Ext (g.at av) (Ow ρ0 σ0) er0 μ0.ec H0 er c H := fun x => xN.trans x fun b z => z.imp id fun e => by rw [e]; exact hD
  refine ⟨fun i m H => m = ds.length - i ∧ S i H, ⟨ds.length, by simp, Nat.zero_le _, er0, wipeR ρ0 vs, μ0, [], [], Ext.refl .., sN.env.wiped, sN.hp, fun b z => .inl (oN b z), upd_same, .nil, by simpa using eR⟩, ?_⟩
  rintro i m H ⟨rfl, hi0, er, ρ, μ, accV, acc, x, E, P, how, hDv, rA, eL⟩
  have xx := x0 x
  have w := wk (fun a => av a ∨ a = Dd) (Ow ρ (wipe σ0 vs)) er μ.ec H i (fun a z => z.imp id fun e => by rw [e]; exact hD) xx how E.owl P.sal P.av
  by_cases hlt : i < ds.length
  · right
    obtain ⟨w1, w2⟩ := w.2 hlt
    have ed : ds.drop i = ds[i] :: ds.drop (i + 1) := List.drop_eq_getElem_cons hlt
    rw [ed] at eL
    unfold lcR at eL
    refine ⟨w1, S (i + 1), fun H' q => ⟨ds.length - (i + 1), by omega, rfl, q⟩, fun x' H' y => ?_⟩
    obtain ⟨w3, w4⟩ := w2 x' H' y
    have n1 : Nx ((g.at av).and Dd) (wipe σ0 vs) er H ρ μ er H' ρ μ := WalkAt.nx (J := J) (i := i) (ds := ds) (x := x') E P w3
    have rx := w4 _ (List.getElem?_eq_getElem hlt)
    cases e1 : t ds[i] ρ with
    | none => rw [e1] at eL; cases eL
    | some ρ1 =>
    rw [e1] at eL
    simp only at eL
    cases e2 : noX (fc ρ1 μ) with
    | no => rw [e2] at eL; cases eL
    | ex _ _ _ _ => rw [e2] at eL; cases eL
    | ok b ρ2 μ2 =>
    rw [e2] at eL
    simp only [Rs.bind_ok] at eL
    intro s1 H1 C1 cl1 fp1
    refine hG s1 H1 C1 cl1 fp1 (fun a => av a ∨ a = Dd) (wipe σ0 vs) er H' ρ ρ1 μ x' ds[i] _ n1.env n1.hp rx e1 fun σ1 m1 hk hl1 => ⟨?_, ?_⟩
    · exact wipe_same hl1 fun j hj => hk j fun z => hj (hi j z)
    have ws : wipe σ1 vs = wipe σ0 vs := wipe_same hl1 fun j hj => hk j fun z => hj (hi j z)
    have oD : ∀ {ρ' : Ro} {σ' : St} {er' : Er} {c' : Nat} {H' : Hp}, RepEnv ((g.at av).and Dd) er' c' H' ρ' σ' → ¬ Ow ρ' σ' Dd := fun {ρ' σ' er' c' H'} E' ⟨j, hj, hs⟩ => by
      rcases hj with ⟨e', xs, q⟩ | ⟨e', xs, q⟩
      · obtain ⟨a, vs, h1, _, _, _, h5, _⟩ := E'.ol j e' xs q
        rw [hs] at h1; cases h1
        exact h5 (.inr rfl)
      · obtain ⟨a, vs, h1, _, _, _, _, h5, _⟩ := E'.od j e' xs q
        rw [hs] at h1; cases h1
        exact h5 (.inr rfl)
    have m01 := n1.s.trans m1
    -- how a turn ends
    have close : ∀ {er3 : Er} {H3 : Hp} {ρ3 : Ro} {μ3 : Mu} {accV' : List V} {acc' : List D}, NxS ((g.at av).and Dd) (wipe σ0 vs) er H ρ μ σ1 er3 H3 ρ3 μ3 → (accV' = accV ∧ acc' = acc ∨ ∃ v d, accV' = accV ++ [v] ∧ acc' = acc ++ [d] ∧ RepD ((g.at av).and Dd) er3 μ3.ec H3 (Ow ρ3 σ1) v d) →
        lcR t fc fe vs (ds.drop (i + 1)) acc' (wipeR ρ3 vs) μ3 = .ok accF ρF μF → H3 Dd = some (.lst accV) ∧ S (i + 1) (upd H3 Dd (.lst accV')) := fun {er3 H3 ρ3 μ3 accV' acc'} mm ha eL' => by
      have hD3 : H3 Dd = some (.lst accV) := mm.x.same Dd _ hDv (oD E) sN.sa sN.sb rfl
      have r3 : RepDs ((g.at av).and Dd) er3 μ3.ec H3 (Ow ρ3 σ1) accV acc := RepDs.ext mm.x E.owl P.sal mm.ow rA
      have r4 : RepDs ((g.at av).and Dd) er3 μ3.ec H3 (Ow ρ3 σ1) accV' acc' := by
        rcases ha with ⟨rfl, rfl⟩ | ⟨v, d, rfl, rfl, q⟩
        · exact r3
        · exact r3.snoc q
      have E3 : RepEnv ((g.at av).and Dd) er3 μ3.ec H3 (wipeR ρ3 vs) (wipe σ0 vs) := by rw [← ws]; exact mm.env.wiped
      have o3 : ∀ b, Ow (wipeR ρ3 vs) (wipe σ0 vs) b → Ow ρ3 σ1 b := fun b z => ow_wipe (by rw [ws]; exact z)
      refine ⟨hD3, hlt, er3, wipeR ρ3 vs, μ3, accV', acc', ?_, E3.atp mm.hp.sal hD3 (.inl ⟨_, rfl⟩), mm.hp.atp hD3 (.inl ⟨_, rfl⟩) sN.sa sN.sb, fun b z => ?_, upd_same, RepDs.atp E3.owl mm.hp.sal hD3 (.inl ⟨_, rfl⟩) (RepDs.less o3 r4), eL'⟩
      · have y1 : Ext (g.at av) (Ow ρ (wipe σ0 vs)) er μ.ec H er3 μ3.ec H3 := ext_av (g := g.at av) (av2 := av) mm.x
        have y2 : Ext (g.at av) (fun b => b = Dd) er3 μ3.ec H3 er3 μ3.ec (upd H3 Dd (.lst accV')) := ext_mut rfl
        refine x.trans (y1.mono (ow' := fun b => Ow ρ (wipe σ0 vs) b ∨ b = Dd) (fun b z => .inl (.inl z)) |>.trans y2 fun b z => .inl (.inr z)) fun b z => ?_
        rcases z with z | z
        · rcases how b z with q | q
          · exact .inl (.inl q)
          · by_cases e : b = Dd
            · exact .inl (.inr e)
            · exact .inr (by rw [upd_ne e]; exact q)
        · exact .inl (.inr z)
      · rcases mm.ow b (o3 b z) with q | q
        · exact how b q
        · right
          by_cases e : H0 b = none
          · exact e
          · exact absurd q (xx.dom b e)
    intro s2 H2 C2 cl2 fp2
    have e2' := noX_ok e2
    refine hc s2 H2 C2 cl2 fp2 (fun a => av a ∨ a = Dd) (fun _ _ _ _ => False) σ1 er H' ρ1 μ _ LamX.takes0 m1.env m1.hp ?_
    rw [e2']
    intro H3 er3 n3
    cases b with
    | false =>
      simp only [Bool.false_eq_true, if_false] at eL ⊢
      obtain ⟨q1, q2⟩ := close (m01.trans n3.s) (.inl ⟨rfl, rfl⟩) eL
      have : upd H3 Dd (.lst accV) = H3 := by
        funext b
        by_cases e : b = Dd
        · rw [e, upd_same, q1]
        · rw [upd_ne e]
      rw [this] at q2
      exact q2
    | true =>
      simp only [if_true] at eL ⊢
      intro s4 H4' C4 cl4 fp4
      cases e4 : noX (fe ρ2 μ2) with
      | no => rw [e4] at eL; cases eL
      | ex _ _ _ _ => rw [e4] at eL; cases eL
      | ok yd ρ3 μ3 =>
      rw [e4] at eL
      simp only [Rs.bind_ok] at eL
      refine he s4 H4' C4 cl4 fp4 (fun a => av a ∨ a = Dd) (fun _ _ _ _ => False) σ1 er3 H3 ρ2 μ2 _ LamX.takes0 n3.env n3.hp ?_
      rw [noX_ok e4]
      intro yv H4 er4 n4 ry
      unfold datR at eL
      cases e5 : fz yd ρ3 with
      | none => rw [e5] at eL; cases eL
      | some p =>
      obtain ⟨yd', ρ4⟩ := p
      rw [e5] at eL
      simp only [Rs.bind_ok] at eL
      obtain ⟨n5, r5⟩ := fz_ok n4.env n4.hp ry e5
      split at eL
      · rename_i hz
        obtain ⟨q1, q2⟩ := close (((m01.trans n3.s).trans n4.s).trans n5.s) (.inr ⟨yv, yd', rfl, rfl, r5⟩) eL
        exact ⟨accV, q1, by rw [rA.length]; exact of_decide_eq_true hz, q2⟩
      · cases eL
  · left
    have e : i = ds.length := by omega
    subst e
    rw [List.drop_length] at eL
    have eL : Rs.ok acc ρ μ = .ok accF ρF μF := eL
    injection eL with ea eb ec
    subst ea eb ec
    refine ⟨w.1 (Nat.le_refl _), ?_⟩
    have EU : RepEnv ((g.at av).and Dd) er μ.ec H (unw ρ0 vs ρ) σ0 := RepEnv.unwiped (g := g.at av) (av' := fun a => av a ∨ a = Dd) E0 P0.sal hn xx how (fun a z => z.imp id fun e => by rw [e]; exact hD) E
    have oU : ∀ b, Ow (unw ρ0 vs ρ) σ0 b → Ow ρ (wipe σ0 vs) b := fun b => ow_unw hn
    have nx : Nx (g.at av) σ0 er0 H0 ρ0 μ0 er H (unw ρ0 vs ρ) μ := ⟨xx, RepEnv.cv (g := (g.at av).and Dd) (av' := av) EU free_and (fun a _ h z => h (.inl z)), HpOk.cv (g := (g.at av).and Dd) (av' := av) P (fun a z => P.avs (.inl z)), fun b z => how b (oU b z)⟩
    exact h.ok' nx Dd ⟨EU, P, sN.era.ext x (by rw [upd_same]; exact fun z => nomatch z), sN.sa, sN.sb, sN.av, ⟨accV, hDv, RepDs.less oU rA⟩⟩ (h00 _ hD)
def evLc (fi : Ro → Mu → Rs (List D)) (t : D → Ro → Option Ro) (fc : Ro → Mu → Rs Bool) (fe : Ro → Mu → Rs D) (vs : List Nat) : Ro → Mu → Rs NV := fun ρ μ => (fi ρ μ).bind fun ds ρ1 μ1 => if noOwn ρ1 vs then (noX (lcR t fc fe vs ds [] (wipeR ρ1 vs) μ1)).bind fun acc ρ2 μ2 => .ok (.nl μ1.ec acc) (unw ρ1 vs ρ2) μ2 else .no
abbrev lcRd (X : Cx) (elt tg iter : Expr) (ifs : List Expr) (scope : Scope) (vs : List Nat) : TE := tLc (RunI X tg iter)
      (fun v σ H Q => ∀ (s : Shared) (H1 : Hp) (C : Addr) (cl : List (Str × Addr)) (fp : List Addr), RunG (X.blk s H1 scope (compEnvC scope cl C X.env) fp) tg v σ H Q)
      (fun σ H Q => ∀ (s : Shared) (H1 : Hp) (C : Addr) (cl : List (Str × Addr)) (fp : List Addr), RunTs (X.blk s H1 scope (compEnvC scope cl C X.env) fp) ifs σ H Q)
      (fun σ H Q => ∀ (s : Shared) (H1 : Hp) (C : Addr) (cl : List (Str × Addr)) (fp : List Addr), RunE (X.blk s H1 scope (compEnvC scope cl C X.env) fp) elt σ H Q) vs
theorem pe_lcU {elt : Expr} {ifs : List Expr} {scope : Scope} {own : List (Str × Nat)} {pos : Pos} (Cc : Cxt g bl n N sc X) (ok : BlkOk N sc scope own) (hs : ∀ x, foldedSetIterable iter X.env x = pure x) : PE X (.ListComp elt [⟨tg, iter, ifs, 0⟩] scope pos) (lcRd X elt tg iter ifs scope (own.map (·.2))) :=
  pe_lc Cc.calm Cc.ndup piR (by rw [Cc.hN, Cc.hsc]; exact ok) (fun s H1 C cl fp => ⟨fun pins s' σ H v u Q I r h => h s H1 C cl fp pins s' u I r⟩) (fun s H1 C cl fp => ⟨fun pins s' σ H Q I h => h s H1 C cl fp pins s' I⟩) (fun s H1 C cl fp => ⟨fun pins s' σ H Q I h => h s H1 C cl fp pins s' I⟩) hs
theorem ps_lcU {elt : Expr} {ifs : List Expr} {scope : Scope} {own : List (Str × Nat)} {i : Nat} {y : Str} {py pos spos : Pos} (Cc : Cxt g bl n N sc X) (hy : N[i]? = some y) (hyl : sc.names.lookup y = some .local) (ok : BlkOk N sc scope own) (hs : ∀ x, foldedSetIterable iter X.env x = pure x)
    (hsw : swapsWith (.ListComp elt [⟨tg, iter, ifs, 0⟩] scope pos) (some (.Name y py)) spos.line X.env = pure true) : PS X (.Assign [.Name y py] (.ListComp elt [⟨tg, iter, ifs, 0⟩] scope pos) spos) (tAsg (lcRd X elt tg iter ifs scope (own.map (·.2))) (gName i)) :=
  ps_setLc Cc.calm Cc.ndup (Cc.at hy) (by rw [Cc.hsc]; exact hyl) hsw piR (by rw [Cc.hN, Cc.hsc]; exact ok) (fun s H1 C cl fp => ⟨fun pins s' σ H v u Q I r h => h s H1 C cl fp pins s' u I r⟩) (fun s H1 C cl fp => ⟨fun pins s' σ H Q I h => h s H1 C cl fp pins s' I⟩) (fun s H1 C cl fp => ⟨fun pins s' σ H Q I h => h s H1 C cl fp pins s' I⟩) hs
/-- a comprehension's parts -/
structure LcP (g : Gd) (X : Cx) (tg : Expr) (ifs : List Expr) (elt : Expr) (scope : Scope) (vs is : List Nat) (t : D → Ro → Option Ro) (fc : Ro → Mu → Rs Bool) (fe : Ro → Mu → Rs D) : Prop where
  hG : ∀ (s : Shared) (H : Hp) (C : Addr) (cl : List (Str × Addr)) (fp : List Addr), OkG g (X.blk s H scope (compEnvC scope cl C X.env) fp) tg is t
  hc : ∀ (s : Shared) (H : Hp) (C : Addr) (cl : List (Str × Addr)) (fp : List Addr), OkTs g (X.blk s H scope (compEnvC scope cl C X.env) fp) ifs fc
  he : ∀ (s : Shared) (H : Hp) (C : Addr) (cl : List (Str × Addr)) (fp : List Addr), OkE g (X.blk s H scope (compEnvC scope cl C X.env) fp) elt fe
  hi : ∀ i ∈ is, i ∈ vs
theorem lc_read {elt : Expr} {ifs : List Expr} {scope : Scope} {vs is : List Nat} {fi : Ro → Mu → Rs (List D)} {t : D → Ro → Option Ro} {fc : Ro → Mu → Rs Bool} {fe : Ro → Mu → Rs D} (Oi : OkI g X tg iter fi) (L : LcP g X tg ifs elt scope vs is t fc fe) {Q : VK} (tk : Takes X W) (E : RepEnv (g.at av) er μ.ec H ρ σ) (P : HpOk (g.at av) er H μ)
    (h : DenG (g.at av) W σ er H ρ μ (evLc fi t fc fe vs ρ μ) (KN (g.at av) σ H Q)) : lcRd X elt tg iter ifs scope vs σ H Q := by
  refine Oi av W σ er H ρ μ _ tk E P (h.bind fun ds ρ1 μ1 H1 er1 _ n1 h1 J wk Dd hD => ?_)
  split at h1
  · rename_i hn
    exact lc_loop L.hG L.hc L.he L.hi hn n1.env n1.hp wk (fun p hp => none_of n1 hp) h1 Dd hD
  · exact h1.elim
theorem OkN.lc {elt : Expr} {ifs : List Expr} {scope : Scope} {own : List (Str × Nat)} {is : List Nat} {pos : Pos} {fi : Ro → Mu → Rs (List D)} {t : D → Ro → Option Ro} {fc : Ro → Mu → Rs Bool} {fe : Ro → Mu → Rs D} (Cc : Cxt g bl n N sc X) (ok : BlkOk N sc scope own) (Oi : OkI g X tg iter fi) (L : LcP g X tg ifs elt scope (own.map (·.2)) is t fc fe)
    (hs : ∀ x, foldedSetIterable iter X.env x = pure x := by intro _; rfl) : OkN g X (.ListComp elt [⟨tg, iter, ifs, 0⟩] scope pos) (evLc fi t fc fe (own.map (·.2))) :=
  fun av W σ er H ρ μ Q tk E P h => .of (pe_lcU Cc ok hs) (lc_read Oi L tk E P h)
/-- a statement's new object as an expression's -/
theorem DenS.newN {i : Nat} {f : Ro → Mu → Rs NV} {Z : Ends} (h : DenS g W σ er H ρ μ (sSetN i f ρ μ) Z) : DenG g W σ er H ρ μ (f ρ μ) (KN g σ H fun v H1 => Z.nx (σ.set i (some v)) H1) := by
  unfold sSetN at h
  cases e' : f ρ μ with
  | ok nv ρ1 μ1 =>
    rw [e'] at h
    exact fun H1 er1 m p w hp => h _ H1 er1 (nxs_new m.s w hp)
  | ex x fs ρ' μ' => rw [e'] at h; exact fun cls dd H' er' m q => h cls dd σ H' er' m.s q
  | no => rw [e'] at h; exact h
theorem OkS.lc {elt : Expr} {ifs : List Expr} {scope : Scope} {own : List (Str × Nat)} {is : List Nat} {i : Nat} {y : Str} {py pos spos : Pos} {fi : Ro → Mu → Rs (List D)} {t : D → Ro → Option Ro} {fc : Ro → Mu → Rs Bool} {fe : Ro → Mu → Rs D} (Cc : Cxt g bl n N sc X) (hy : N[i]? = some y) (hyl : sc.names.lookup y = some .local) (ok : BlkOk N sc scope own) (Oi : OkI g X tg iter fi) (L : LcP g X tg ifs elt scope (own.map (·.2)) is t fc fe)
    (hsw : swapsWith (.ListComp elt [⟨tg, iter, ifs, 0⟩] scope pos) (some (.Name y py)) spos.line X.env = pure true) (hs : ∀ x, foldedSetIterable iter X.env x = pure x := by intro _; rfl) : OkS g X (.Assign [.Name y py] (.ListComp elt [⟨tg, iter, ifs, 0⟩] scope pos) spos) (sSetN i (evLc fi t fc fe (own.map (·.2)))) :=
  fun av W σ er H ρ μ Z tk E P h => .of (ps_lcU Cc hy hyl ok hs hsw) (lc_read (Q := fun v H1 => Z.nx (σ.set i (some v)) H1) Oi L tk E P h.newN)

/-! ### over the keys of a dict that stands at a name -/
theorem NewAt.lk {p d : Addr} {nv : NV} (l : LkR H H2) (hd : ∀ a, a ≠ d → H2 a = H a) (hp : p ≠ d) (hl : ∀ a, Ow ρ σ a → a ≠ d) (w : NewAt g σ er H ρ μ p nv) : NewAt g σ er H2 ρ μ p nv :=
  ⟨w.env.lk l (fun a h => hd a (hl a h)), w.hp.lk l, w.era, w.sa, w.sb, w.av, by
    cases nv with
    | nl e xs => obtain ⟨vs, h1, h2⟩ := w.at_; exact ⟨vs, by rw [hd p hp]; exact h1, RepDs.lk l h2⟩
    | nd e xs => obtain ⟨vs, h1, h2, h3⟩ := w.at_; exact ⟨vs, by rw [hd p hp]; exact h1, h2, RepKs.lk l h3⟩⟩
theorem Nx.unlk {d : Addr} {kvs : List (Key × V)} {ob : Obj} {er' : Er} {H' : Hp} {ρ' : Ro} {μ' : Mu} (hd : H d = some (.dK kvs)) (nd : ¬ Ow ρ σ d) (m : Nx g σ er (upd H d (.frz ob (.dK kvs))) ρ μ er' H' ρ' μ') (hs : d ≠ g.sa ∧ d ≠ g.sb) : H' d = some (.frz ob (.dK kvs)) ∧ LkR H' (upd H' d (.dK kvs)) ∧ Nx g σ er H ρ μ er' (upd H' d (.dK kvs)) ρ' μ' :=
  let ⟨a, b, c⟩ := NxS.unlk hd nd m.s hs; ⟨a, b, c.toNx⟩
theorem DenG.lockN {d : Addr} {kvs : List (Key × V)} {ob : Obj} {r : Rs NV} {H0 : Hp} {Q : VK} (hd : H d = some (.dK kvs)) (nd : ¬ Ow ρ σ d) (hs : d ≠ g.sa ∧ d ≠ g.sb) (h0 : H0 d ≠ none) (h : DenG g W σ er H ρ μ r (KN g σ H0 Q)) :
    DenG g (fun cls dd σ H => H d = some (.frz ob (.dK kvs)) ∧ W cls dd σ (upd H d (.dK kvs))) σ er (upd H d (.frz ob (.dK kvs))) ρ μ r (KN g σ H0 fun v H' => H' d = some (.frz ob (.dK kvs)) ∧ Q v (upd H' d (.dK kvs))) := by
  cases r with
  | ok nv ρ' μ' =>
    intro H' er' m p w hp
    obtain ⟨e, l, m'⟩ := Nx.unlk hd nd m hs
    refine ⟨e, h _ er' m' p (w.lk l (fun a h => upd_ne h) (fun z => h0 (z ▸ hp)) fun a ha z => ?_) hp⟩
    rcases m.env.owl a ha with ⟨vs, q⟩ | ⟨vs, q⟩ <;> rw [z, e] at q <;> cases q
  | ex x fs ρ' μ' =>
    intro cls dd H' er' m q
    obtain ⟨e, l, m'⟩ := Nx.unlk hd nd m hs
    refine ⟨e, h cls dd _ er' m' ?_⟩
    obtain ⟨C, vs, h1, h2, h3, h4⟩ := q
    refine ⟨C, vs, h1, h2, ?_, h4.lk l⟩
    rcases l dd _ h3 with q | ⟨kvs', q | ⟨ob', q⟩, _⟩
    · exact q
    · cases q
    · cases q
  | no => exact h
/-- the reading of a comprehension over the value at slot i, its dict locked or not -/
theorem lc_readK {i : Nat} {x : Str} {p : Pos} {elt : Expr} {ifs : List Expr} {scope : Scope} {vs is : List Nat} {t : D → Ro → Option Ro} {fc : Ro → Mu → Rs Bool} {fe : Ro → Mu → Rs D} (C : Cxt g bl n N sc X) (hi : N[i]? = some x) (hv : Vis sc x) (hd : (x == ("__debug__" : Str)) = false) (hcd : (x == ("__classdict__" : Str)) = false) (L : LcP g X tg ifs elt scope vs is t fc fe) {Q : VK}
    (E : RepEnv (g.at av) er μ.ec H ρ σ) (P : HpOk (g.at av) er H μ) (h : DenG (g.at av) W σ er H ρ μ (evLc (evK1 i) t fc fe vs ρ μ) (KN (g.at av) σ H Q)) :
    lcRd X elt tg (.Name x p) ifs scope vs σ H Q ∨ ∃ d kvs, H d = some (.dK kvs) ∧ ∀ ob, lcRd X elt tg (.Name x p) ifs scope vs σ (upd H d (.frz ob (.dK kvs))) fun v H' => H' d = some (.frz ob (.dK kvs)) ∧ Q v (upd H' d (.dK kvs)) := by
  unfold evLc evK1 datR at h
  cases e1 : fz (.own i) ρ with
  | none => rw [e1] at h; exact h.elim
  | some q =>
    obtain ⟨d', ρ1⟩ := q
    rw [e1] at h
    simp only [Rs.bind_ok] at h
    obtain ⟨v, hsl, n1, r1⟩ := slot_dat E P e1
    have h1 := DenG.nx n1 h
    cases d' with
    | dic e0 kvs =>
      simp only [itemsK, Rs.bind_ok] at h1
      split at h1
      · rename_i hn
        cases r1 with
        | dic ha he hf nd r =>
          rename_i a us
          rcases ha with ha | ⟨ob, ha⟩
          · refine .inr ⟨a, us, ha, fun ob => ?_⟩
            have l : LkR H (upd H a (.frz ob (.dK us))) := lk_upd ha
            have E2 : RepEnv (g.at av) er μ.ec (upd H a (.frz ob (.dK us))) ρ1 σ := n1.env.lk l fun b hb => by rw [upd_ne (fun z => hf.2.1 (by rw [← z]; exact hb))]
            refine .of (pi_any3 peR) (vis_own C hi hv hd hcd hsl (.inr (.inr (.inr ⟨a, ob, us, rfl, upd_same, fun Dd hD => ?_⟩))))
            exact lc_loop L.hG L.hc L.he L.hi hn E2 (n1.hp.lk l) (walks_keys upd_same hf.2.1 hf.2.2 (RepKs.lk l r)) (fun p hp => by
              by_cases z : p = a
              · rw [z, upd_same] at hp; cases hp
              · rw [upd_ne z] at hp; exact hp) (DenG.lockN ha hf.2.1 hf.2.2 (by rw [ha]; exact fun z => nomatch z) h1) Dd hD
          · left
            refine .of (pi_any3 peR) (vis_own C hi hv hd hcd hsl (.inr (.inr (.inr ⟨a, ob, us, rfl, ha, fun Dd hD => ?_⟩))))
            exact lc_loop L.hG L.hc L.he L.hi hn n1.env n1.hp (walks_keys ha hf.2.1 hf.2.2 r) (fun p hp => hp) h1 Dd hD
      · exact h1.elim
    | lst e0 xs =>
      simp only [itemsK, itemsD, Rs.bind_ok] at h1
      split at h1
      · rename_i hn
        cases r1 with
        | lst ha he hf r => exact .inl (.of (pi_any3 peR) (vis_own C hi hv hd hcd hsl (.inl ⟨_, rfl, ⟨_, .of ha⟩, fun Dd hD => lc_loop L.hG L.hc L.he L.hi hn n1.env n1.hp (walks_list C.hK ha hf r n1.env.owl n1.hp.sal) (fun p hp => hp) h1 Dd hD⟩)))
      · exact h1.elim
    | tup xs =>
      simp only [itemsK, itemsD, Rs.bind_ok] at h1
      split at h1
      · rename_i hn
        cases r1 with
        | tup ha r => exact .inl (.of (pi_any3 peR) (vis_own C hi hv hd hcd hsl (.inr (.inl ⟨_, rfl, ⟨_, by rw [C.hK]; exact ha⟩, fun Dd hD => lc_loop L.hG L.hc L.he L.hi hn n1.env n1.hp (walks_tup ha r n1.env.owl n1.hp.sal C.hK) (fun p hp => hp) h1 Dd hD⟩))))
      · exact h1.elim
    | str z =>
      simp only [itemsK, itemsD, Rs.bind_ok] at h1
      split at h1
      · rename_i hn
        cases r1
        exact .inl (.of (pi_any3 peR) (vis_own C hi hv hd hcd hsl (.inr (.inr (.inl ⟨z, rfl, fun Dd hD => lc_loop L.hG L.hc L.he L.hi hn n1.env n1.hp walks_str (fun p hp => hp) h1 Dd hD⟩)))))
      · exact h1.elim
    | _ => exact h1.elim
theorem OkN.lcK {i : Nat} {x : Str} {p : Pos} {elt : Expr} {ifs : List Expr} {scope : Scope} {own : List (Str × Nat)} {is : List Nat} {pos : Pos} {t : D → Ro → Option Ro} {fc : Ro → Mu → Rs Bool} {fe : Ro → Mu → Rs D} (C : Cxt g bl n N sc X) (hi : N[i]? = some x) (hv : Vis sc x) (hd : (x == ("__debug__" : Str)) = false) (hcd : (x == ("__classdict__" : Str)) = false) (ok : BlkOk N sc scope own) (L : LcP g X tg ifs elt scope (own.map (·.2)) is t fc fe)
    (hs : ∀ y, foldedSetIterable (.Name x p) X.env y = pure y := by intro _; rfl) : OkN g X (.ListComp elt [⟨tg, .Name x p, ifs, 0⟩] scope pos) (evLc (evK1 i) t fc fe (own.map (·.2))) := by
  intro av W σ er H ρ μ Q tk E P h
  rcases lc_readK (p := p) C hi hv hd hcd L E P h with h | ⟨d, kvs, hdd, h⟩
  · exact .of (pe_lcU C ok hs) h
  · exact .of (pe_lock (pe_lcU C ok hs)) ⟨d, _, hdd, True.intro, h⟩
theorem OkS.lcK {i j : Nat} {x y : Str} {p py spos : Pos} {elt : Expr} {ifs : List Expr} {scope : Scope} {own : List (Str × Nat)} {is : List Nat} {pos : Pos} {t : D → Ro → Option Ro} {fc : Ro → Mu → Rs Bool} {fe : Ro → Mu → Rs D} (C : Cxt g bl n N sc X) (hy : N[j]? = some y) (hyl : sc.names.lookup y = some .local) (hi : N[i]? = some x) (hv : Vis sc x) (hd : (x == ("__debug__" : Str)) = false) (hcd : (x == ("__classdict__" : Str)) = false) (ok : BlkOk N sc scope own) (L : LcP g X tg ifs elt scope (own.map (·.2)) is t fc fe)
    (hsw : swapsWith (.ListComp elt [⟨tg, .Name x p, ifs, 0⟩] scope pos) (some (.Name y py)) spos.line X.env = pure true) (hs : ∀ y, foldedSetIterable (.Name x p) X.env y = pure y := by intro _; rfl) : OkS g X (.Assign [.Name y py] (.ListComp elt [⟨tg, .Name x p, ifs, 0⟩] scope pos) spos) (sSetN j (evLc (evK1 i) t fc fe (own.map (·.2)))) := by
  intro av W σ er H ρ μ Z tk E P h
  rcases lc_readK (p := p) (Q := fun v H1 => Z.nx (σ.set j (some v)) H1) C hi hv hd hcd L E P h.newN with h | ⟨d, kvs, hdd, h⟩
  · exact .of (ps_lcU C hy hyl ok hs hsw) h
  · exact .of (ps_lock (ps_lcU C hy hyl ok hs hsw)) ⟨d, _, hdd, True.intro, h⟩
end
end GW

set_option maxHeartbeats 2000000
namespace GW
open PySem PySem.Spec PyProof.Rows L2
/-- what a def's call gives -/
inductive Rf where
  | ok (d : D) (μ : Mu)
  | ex (x : Str) (fs : List (Str × D)) (μ : Mu)
  | no
abbrev NoOw : Addr → Prop := fun _ => False
inductive RepPs (g : Gd) (er : Er) (c : Nat) (H : Hp) : List V → List D → Prop
  | nil : RepPs g er c H [] []
  | cons {v : V} {d : D} {vs : List V} {ds : List D} (h : RepV g er c NoOw H v d) (r : RepPs g er c H vs ds) : RepPs g er c H (v :: vs) (d :: ds)
/-- what the end of a call asks -/
def DenF (g : Gd) (E : XK) (er : Er) (H : Hp) (μ : Mu) (r : Rf) (Q : VK) : Prop := match r with
  | .ok d μ' => ∀ v H' er', Ext g NoOw er μ.ec H er' μ'.ec H' → HpOk g er' H' μ' → RepD g er' μ'.ec H' NoOw v d → Q v H'
  | .ex x fs μ' => ∀ cls dd H' er', Ext g NoOw er μ.ec H er' μ'.ec H' → HpOk g er' H' μ' → ExRep g er' μ'.ec NoOw H' x fs cls dd → E cls (some dd) H'
  | .no => False
/-- a def's promise by its function -/
def spF (g : Gd) (np : Nat) (F : List D → Mu → Rf) : Sp := fun vs H Q E => ∃ av er μ ds, HpOk (g.at av) er H μ ∧ RepPs (g.at av) er μ.ec H vs ds ∧ ds.length = np ∧ DenF (g.at av) E er H μ (F ds μ) Q
theorem RepPs.length {g : Gd} {er : Er} {c : Nat} {H : Hp} {vs : List V} {ds : List D} (h : RepPs g er c H vs ds) : vs.length = ds.length := by
  induction h with
  | nil => rfl
  | cons h r ih => simp [ih]
theorem spF_len {g : Gd} {np : Nat} {F : List D → Mu → Rf} {vs : List V} {H : Hp} {Q : VK} {E : XK} (h : spF g np F vs H Q E) : vs.length = np := by
  obtain ⟨av, er, μ, ds, _, r, l, _⟩ := h
  rw [r.length, l]
/-- deeper than the trees at hand: nothing is promised -/
theorem spF_no {P : Program} {w : World} {K : PySem.W.Frag} {mg : Str → Option Value} {base : Heap} {k : Nat} {f : Addr} {fd : FuncData} {ps : List Str} {g : Gd} {F : List D → Mu → Rf} (h : ∀ ds μ, F ds μ = .no) : FnOk P w K mg base (L2.CX P w) k f fd ps (spF g ps.length F) :=
  ⟨fun vs H Q E q => spF_len q, fun A outer s H args us vs Q E hr he hb hv ⟨av, er, μ, ds, _, _, _, q⟩ => by rw [h] at q; exact q.elim⟩
def Rs.fin (r : Rs Fl) : Rf := match r with
  | .ok .nx _ μ => .ok .non μ
  | .ok (.rt d) _ μ => .ok d μ
  | .ex x fs _ μ => .ex x fs μ
  | .no => .no
/-- the frame at a def's entry -/
def rho0 (n : Nat) (ds : List D) : Ro := ds.map SV.val ++ List.replicate (n - ds.length) SV.un
section
variable {g : Gd} {X : Cx} {W : WX} {σ : St} {er : Er} {H H2 : Hp} {ρ : Ro} {μ : Mu} {c : Nat} {ow ow' : Addr → Prop} {av : Addr → Prop} {bl : List Str} {n : Nat} {N : List Str} {sc : Scope} {α β : Type} {tg iter : Expr}
theorem rho0_val {n : Nat} {ds : List D} {i : Nat} {sv : SV} (h : (rho0 n ds)[i]? = some sv) : (∃ d, ds[i]? = some d ∧ sv = .val d) ∨ sv = .un := by
  unfold rho0 at h
  rw [List.getElem?_append] at h
  split at h
  · rw [List.getElem?_map] at h
    obtain ⟨d, h1, h2⟩ := Option.map_eq_some_iff.mp h
    exact .inl ⟨d, h1, h2.symm⟩
  · rw [List.getElem?_replicate] at h
    split at h
    · cases h; exact .inr rfl
    · cases h
theorem rho0_own {n : Nat} {ds : List D} {i : Nat} (h : isOw (rho0 n ds) i) : False := by
  obtain ⟨sv, h1, h2⟩ := isOw_iff.mp h
  rcases rho0_val h1 with ⟨d, _, rfl⟩ | rfl <;> cases h2
theorem start_get {N : List Str} {vs : List V} {i : Nat} {v : V} (h : vs[i]? = some v) : (L2.start N vs)[i]? = some (some v) := by
  unfold L2.start
  have hl : i < vs.length := (List.getElem?_eq_some_iff.mp h).1
  rw [List.getElem?_append_left (by simpa using hl), List.getElem?_map, h]; rfl
theorem RepPs.get {vs : List V} {ds : List D} (r : RepPs g er c H vs ds) : ∀ {i : Nat} {d : D}, ds[i]? = some d → ∃ v, vs[i]? = some v ∧ RepV g er c NoOw H v d := by
  induction r with
  | nil => intro i d h; cases h
  | @cons v d vs ds h r ih =>
    intro i d' e
    cases i with
    | zero => cases e; exact ⟨v, rfl, h⟩
    | succ i => exact ih e
theorem env_start {vs : List V} {ds : List D} (r : RepPs g er c H vs ds) (hn : ds.length ≤ N.length) : RepEnv g er c H (rho0 N.length ds) (L2.start N vs) where
  len := by
    have e := r.length
    unfold rho0 L2.start
    simp only [List.length_append, List.length_map, List.length_replicate]
    omega
  val := fun i d h => by
    rcases rho0_val h with ⟨d', h1, e⟩ | e
    · cases e
      obtain ⟨v, h2, h3⟩ := r.get h1
      exact ⟨v, start_get h2, RepV.less (fun a z => let ⟨i, hi, _⟩ := z; rho0_own hi) h3⟩
    · cases e
  ol := fun i e xs h => (rho0_own (.inl ⟨e, xs, h⟩)).elim
  od := fun i e xs h => (rho0_own (.inr ⟨e, xs, h⟩)).elim
  inj := fun i j a h1 => (rho0_own h1).elim
theorem RepFs.less {ow' : Addr → Prop} (h : ∀ a, ow' a → ow a) {vs : List (Str × V)} {ds : List (Str × D)} (r : RepFs g er c ow H vs ds) : RepFs g er c ow' H vs ds := RepFs.cv (g := g) (av' := g.av) (free_sub h) r
/-- a def by its body -/
theorem fn_by {P : Program} {w : World} {K : PySem.W.Frag} {mg : Str → Option Value} {base : Heap} {k : Nat} {f : Addr} {name qual : Str} {params : Arguments} {body : List Stmt} {scope : Scope} {dV kV doc pm cdv ct oc : Value} {an od : Option Addr}
    {osl : Array (Option Value)} {N ps : List Str} {fb : Ro → Mu → Rs Fl} (lk : K.lookup f = some ⟨oc, od, .func (PySem.W.fnOf name qual params body scope dV kV doc pm an cdv ct), osl⟩) (hcd : PySem.W.codeIn K cdv qual = true) (S : FnScope N ps scope)
    (hb : ∀ (A : Around) (outer : List Env) (s : Shared) (H : Hp) (E : XK), Room k (A.deeper (envOfC qual scope s.heap.objs.size f cdv)) → OkSs g (cxOf (L2.CX P w) P w K mg base N qual scope f cdv A outer s H E) body fb) :
    FnOk P w K mg base (L2.CX P w) (k + 1) f (PySem.W.fnOf name qual params body scope dV kV doc pm an cdv ct) ps (spF g ps.length fun ds μ => (fb (rho0 N.length ds) μ).fin) := by
  refine fn_of lk hcd S (fun vs H Q E q => spF_len q) fun A outer s H vs Q E hr hsp => ⟨_, pssR, ?_⟩
  obtain ⟨av, er, μ, ds, P0, rs, hl, q⟩ := hsp
  have hN : ds.length ≤ N.length := by
    have := congrArg List.length S.pre
    rw [List.length_take] at this; omega
  have tk : Takes (cxOf (L2.CX P w) P w K mg base N qual scope f cdv A outer s H E) (fun cls d _ H => E cls d H) := takes_of rfl rfl rfl rfl
  refine hb A outer s H E hr av _ (L2.start N vs) er H (rho0 N.length ds) μ _ tk (env_start rs hN) P0 ?_
  have o0 : ∀ a, Ow (rho0 N.length ds) (L2.start N vs) a → NoOw a := fun a z => let ⟨i, hi, _⟩ := z; (rho0_own hi).elim
  have q : DenF (g.at av) E er H μ (fb (rho0 N.length ds) μ).fin Q := q
  cases e : fb (rho0 N.length ds) μ with
  | ok o ρ' μ' =>
    rw [e] at q
    cases o with
    | nx => exact fun σ' H' er' m => q .non H' er' (m.x.mono fun a z => .inl (o0 a z)) m.hp .non
    | rt d => exact fun v σ' H' er' m r => q v H' er' (m.x.mono fun a z => .inl (o0 a z)) m.hp (RepD.less (fun a z => z.elim) r)
  | ex x fs ρ' μ' =>
    rw [e] at q
    exact fun cls dd σ' H' er' m ⟨C, vs, h1, h2, h3, h4⟩ => q cls dd H' er' (m.x.mono fun a z => .inl (o0 a z)) m.hp ⟨C, vs, h1, h2, h3, h4.less fun a z => z.elim⟩
  | no => rw [e] at q; exact q.elim

/-! ### calls -/
/-- what a callee gets to see -/
def pass1 (ρ : Ro) : D → Option D
  | .own i => match ρ[i]? with
    | some (.ol e xs) => some (.lst e xs)
    | some (.od e xs) => some (.dic e xs)
    | some (.val d) => some d
    | _ => none
  | d => some d
def passA (ρ : Ro) : List D → Option (List D)
  | [] => some []
  | d :: ds => match pass1 ρ d, passA ρ ds with
    | some a, some b => some (a :: b)
    | _, _ => none
/-- the own objects handed over are own no more -/
def give1 (ρ : Ro) : D → Ro
  | .own i => match ρ[i]? with
    | some (.ol e xs) => ρ.set i (.val (.lst e xs))
    | some (.od e xs) => ρ.set i (.val (.dic e xs))
    | _ => ρ
  | _ => ρ
def giveA : List D → Ro → Ro
  | [], ρ => ρ
  | d :: ds, ρ => giveA ds (give1 ρ d)
mutual
/-- no list, no dict within -/
def flatR : D → Bool
  | .lst _ _ => false
  | .dic _ _ => false
  | .tup xs => flatRs xs
  | .lab _ d => flatR d
  | _ => true
def flatRs : List D → Bool
  | [] => true
  | d :: ds => flatR d && flatRs ds
end
theorem RepD.flat {av' : Addr → Prop} {d : D} {v : V} (e : flatR d = true) (r : RepD g er c H ow v d) : RepD (g.at av') er c H ow' v d := by
  revert v e
  refine D.rec (motive_1 := fun d => ∀ {v : V}, flatR d = true → RepD g er c H ow v d → RepD (g.at av') er c H ow' v d) (motive_2 := fun ds => ∀ {vs : List V}, flatRs ds = true → RepDs g er c H ow vs ds → RepDs (g.at av') er c H ow' vs ds) (motive_3 := fun _ => True) (motive_4 := fun _ => True) ?_ ?_ ?_ ?_ ?_ ?_ ?_ ?_ ?_ ?_ ?_ ?_ ?_ ?_ ?_ ?_ ?_ ?_ ?_ d
  · intro v _ r; cases r; exact .non
  · intro b v _ r; cases r; exact .bl _
  · intro b v _ r; cases r; exact .int _
  · intro b v _ r; cases r; exact .str _
  · intro xs ih v e r
    cases r with
    | tup h r => exact .tup (g := g.at av') h (ih e r)
  · intro e xs _ v h _; cases h
  · intro e xs _ v h _; cases h
  · intro x v _ r
    cases r with
    | fn h hx => exact .fn (g := g.at av') h hx
  · intro n ws _ v _ r; cases r
  · intro v _ r; cases r
  · intro i v _ r; cases r
  · intro w v _ r; cases r; exact .any _
  · intro w d ih v e r
    cases r with
    | lab h => exact .lab (ih e h)
  · intro x fs v _ r
    cases r with
    | exc hx h hp hd => exact .exc (g := g.at av') hx h hp hd
  · intro vs _ r; cases r; exact .nil
  · intro d ds h1 h2 vs e r
    cases r with
    | cons h r =>
      have e := (Bool.and_eq_true _ _).mp e
      exact .cons (h1 e.1 h) (h2 e.2 r)
  all_goals (intros; trivial)
/-- handed over by slot i -/
def Given (ds : List D) (i : Nat) : Prop := D.own i ∈ ds
theorem give1_nx {d : D} (E : RepEnv g er μ.ec H ρ σ) (P : HpOk g er H μ) : Nx g σ er H ρ μ er H (give1 ρ d) μ := by
  unfold give1
  split
  · split
    · rename_i e xs q
      exact (frz_ol E P q).1
    · rename_i e xs q
      exact (frz_od E P q).1
    · exact .refl E P
  · exact .refl E P
theorem give_nx : ∀ {ds : List D} {ρ : Ro}, RepEnv g er μ.ec H ρ σ → HpOk g er H μ → Nx g σ er H ρ μ er H (giveA ds ρ) μ
  | [], ρ, E, P => .refl E P
  | d :: ds, ρ, E, P => let m := give1_nx (d := d) E P; m.trans (give_nx m.env m.hp)
theorem give1_own {d : D} {j : Nat} (h : isOw (give1 ρ d) j) : isOw ρ j ∧ d ≠ .own j := by
  unfold give1 at h
  have set_ : ∀ {i : Nat} {d : D}, isOw (ρ.set i (.val d)) j → isOw ρ j ∧ D.own i ≠ D.own j := fun {i d} h => by
    obtain ⟨sv, q1, q2⟩ := isOw_iff.mp h
    rcases get_set q1 with ⟨_, e⟩ | ⟨e, q1⟩
    · rw [e] at q2; cases q2
    · exact ⟨isOw_iff.mpr ⟨_, q1, q2⟩, fun z => by cases z; exact e rfl⟩
  split at h
  · split at h
    · exact set_ h
    · exact set_ h
    · rename_i n1 n2
      refine ⟨h, fun z => ?_⟩
      cases z
      rcases h with ⟨e, xs, q⟩ | ⟨e, xs, q⟩
      · exact n1 e xs q
      · exact n2 e xs q
  · rename_i hne
    exact ⟨h, fun z => hne _ z⟩
theorem give_own : ∀ {ds : List D} {ρ : Ro} {j : Nat}, isOw (giveA ds ρ) j → isOw ρ j ∧ D.own j ∉ ds
  | [], ρ, j, h => ⟨h, by simp⟩
  | d :: ds, ρ, j, h => by
    obtain ⟨h1, h2⟩ := give_own (ds := ds) h
    obtain ⟨h3, h4⟩ := give1_own h1
    exact ⟨h3, fun z => (List.mem_cons.mp z).elim (fun z => h4 z.symm) h2⟩
/-- what belongs to others while a callee runs -/
def avC (av : Addr → Prop) (ρ : Ro) (σ : St) (ds : List D) : Addr → Prop := fun a => av a ∨ ∃ j, isOw ρ j ∧ D.own j ∉ ds ∧ σ[j]? = some (some (V.ref a))
theorem avC_ow {ds : List D} {a : Addr} (h : ¬ (g.at av).av a) (h2 : ¬ Ow ρ σ a) : ¬ avC av ρ σ ds a := fun z => z.elim h fun ⟨j, h3, _, h4⟩ => h2 ⟨j, h3, h4⟩
theorem pass_ok {ds0 : List D} (E : RepEnv (g.at av) er c H ρ σ) : ∀ {vs : List V} {ds xs : List D}, (∀ i, D.own i ∈ ds → D.own i ∈ ds0) → RepOs (g.at av) er c H ρ σ vs ds → passA ρ ds = some xs → RepPs (g.at (avC av ρ σ ds0)) er c H vs xs
  | _, [], xs, hd, h, e => by cases e; cases h; exact .nil
  | _, d :: ds, xs, hd, .cons (v := v) h r, e => by
    unfold passA at e
    cases e1 : pass1 ρ d with
    | none => rw [e1] at e; cases e
    | some a =>
      cases e2 : passA ρ ds with
      | none => rw [e1, e2] at e; cases e
      | some b =>
        rw [e1, e2] at e
        cases e
        have fr : ∀ b, H b ≠ none → Free (g.at av) (Ow ρ σ) b → Free ((g.at av).at (avC av ρ σ ds0)) NoOw b := fun b _ f => ⟨avC_ow (g := g) f.1 f.2.1, fun z => z, f.2.2⟩
        refine .cons ?_ (pass_ok E (fun i hi => hd i (List.mem_cons_of_mem _ hi)) r e2)
        cases d with
        | own i =>
          have hs : σ[i]? = some (some v) := h
          unfold pass1 at e1
          simp only at e1
          have mine : ∀ a', isOw ρ i → v = .ref a' → ¬ (g.at av).av a' → ¬ avC av ρ σ ds0 a' := fun a' ho ev na z => z.elim na fun ⟨j, h3, h4, h5⟩ => by
            subst ev
            have := E.inj i j a' ho h3 hs h5
            exact h4 (by rw [← this]; exact hd i (List.mem_cons_self ..))
          cases q : ρ[i]? with
          | none => rw [q] at e1; cases e1
          | some sv =>
            rw [q] at e1
            cases sv with
            | un => cases e1
            | val d =>
              cases e1
              obtain ⟨u, h1, h2⟩ := E.val i _ q
              rw [hs] at h1; cases h1
              exact RepV.cv (g := g.at av) (av' := avC av ρ σ ds0) fr h2
            | ol e xs =>
              cases e1
              obtain ⟨a', us, h1, h2, h3, h4, h5, h6⟩ := E.ol i e xs q
              rw [hs] at h1; cases h1
              exact .d (.lst h2 h3 ⟨mine a' (.inl ⟨_, _, q⟩) rfl h5, fun z => z, h6⟩ (RepDs.cv (g := g.at av) (av' := avC av ρ σ ds0) fr h4))
            | od e xs =>
              cases e1
              obtain ⟨a', us, h1, h2, h3, h4, h4', h5, h6⟩ := E.od i e xs q
              rw [hs] at h1; cases h1
              exact .d (.dic (.inl h2) h3 ⟨mine a' (.inr ⟨_, _, q⟩) rfl h5, fun z => z, h6⟩ h4 (RepKs.cv (g := g.at av) (av' := avC av ρ σ ds0) fr h4'))
        | _ => cases e1; exact RepV.cv (g := g.at av) (av' := avC av ρ σ ds0) fr h
theorem avC_hp {ds : List D} (E : RepEnv (g.at av) er μ.ec H ρ σ) (P : HpOk (g.at av) er H μ) : HpOk (g.at (avC av ρ σ ds)) er H μ :=
  HpOk.cv (g := g.at av) P fun a z => by
    rcases z with z | ⟨j, hj, _, hs⟩
    · exact P.avs z
    · rcases hj with ⟨e, xs, q⟩ | ⟨e, xs, q⟩
      · obtain ⟨a', us, h1, h2, _, _, _, h6⟩ := E.ol j e xs q
        rw [hs] at h1; cases h1
        exact ⟨(by rw [h2]; exact fun z => nomatch z), h6⟩
      · obtain ⟨a', us, h1, h2, _, _, _, _, h6⟩ := E.od j e xs q
        rw [hs] at h1; cases h1
        exact ⟨(by rw [h2]; exact fun z => nomatch z), h6⟩
/-- behind a call -/
theorem nx_call {ds : List D} {er' : Er} {H' : Hp} {μ' : Mu} (E : RepEnv (g.at av) er μ.ec H ρ σ) (P : HpOk (g.at av) er H μ) (x : Ext (g.at (avC av ρ σ ds)) NoOw er μ.ec H er' μ'.ec H') (P' : HpOk (g.at (avC av ρ σ ds)) er' H' μ') : Nx (g.at av) σ er H ρ μ er' H' ρ μ' := by
  have x1 : Ext (g.at av) NoOw er μ.ec H er' μ'.ec H' := ext_av (g := g) x
  have x2 : Ext (g.at av) (Ow ρ σ) er μ.ec H er' μ'.ec H' := x1.mono fun a z => z.elim
  refine ⟨x2, ⟨E.len, fun i d h => ?_, fun i e xs h => ?_, fun i e xs h => ?_, E.inj⟩, HpOk.cv (g := g.at (avC av ρ σ ds)) (av' := av) P' fun a z => P'.avs (.inl z), fun a z => .inl z⟩
  · obtain ⟨v, h1, h2⟩ := E.val i d h
    exact ⟨v, h1, RepV.ext x2 E.owl P.sal (fun _ => .inl) h2⟩
  · obtain ⟨a, vs, h1, h2, h3, h4, h5, h6⟩ := E.ol i e xs h
    exact ⟨a, vs, h1, x1.same a _ h2 (fun z => z) h6.1 h6.2 rfl, h3.ext x2 (by rw [h2]; exact fun z => nomatch z), RepDs.ext x2 E.owl P.sal (fun _ => .inl) h4, h5, h6⟩
  · obtain ⟨a, vs, h1, h2, h3, h3', h4, h5, h6⟩ := E.od i e xs h
    exact ⟨a, vs, h1, x1.same a _ h2 (fun z => z) h6.1 h6.2 rfl, h3.ext x2 (by rw [h2]; exact fun z => nomatch z), h3', RepKs.ext x2 E.owl P.sal (fun _ => .inl) h4, h5, h6⟩
def callF (F : List D → Mu → Rf) (ds : List D) (ρ : Ro) (μ : Mu) : Rs D := match passA ρ ds with
  | some xs => match F xs μ with
    | .ok d μ' => .ok d (if flatR d then ρ else giveA ds ρ) μ'
    | .ex x fs μ' => .ex x fs (giveA ds ρ) μ'
    | .no => .no
  | none => .no
theorem free_give {ds : List D} (b : Addr) (_ : H b ≠ none) (f : Free (g.at (avC av ρ σ ds)) NoOw b) : Free ((g.at (avC av ρ σ ds)).at av) (Ow (giveA ds ρ) σ) b :=
  ⟨fun z => f.1 (.inl z), fun ⟨j, hj, hs⟩ => let ⟨h1, h2⟩ := give_own hj; f.1 (.inr ⟨j, h1, h2, hs⟩), f.2.2⟩
/-- a call's promise, from what is wanted of it -/
theorem spF_of {np : Nat} {F : List D → Mu → Rf} {ds : List D} {vs : List V} {Q : VK} (E : RepEnv (g.at av) er μ.ec H ρ σ) (P : HpOk (g.at av) er H μ) (r : RepOs (g.at av) er μ.ec H ρ σ vs ds) (hl : ds.length = np)
    (h : DenG (g.at av) W σ er H ρ μ (callF F ds ρ μ) (KE (g.at av) σ Q)) : spF g np F vs H Q (WE W σ) := by
  unfold callF at h
  cases e1 : passA ρ ds with
  | none => rw [e1] at h; exact h.elim
  | some xs =>
    simp only [e1] at h
    have rp := pass_ok (ds0 := ds) E (fun _ z => z) r e1
    have lx : xs.length = np := by
      rw [← hl, ← rp.length]
      clear h rp e1 hl
      induction r with
      | nil => rfl
      | cons h r ih => simp [ih]
    refine ⟨avC av ρ σ ds, er, μ, xs, avC_hp E P, rp, lx, ?_⟩
    cases e2 : F xs μ with
    | no => simp only [e2] at h; exact h
    | ex x fs μ' =>
      simp only [e2] at h
      intro cls dd H' er' x1 P1 q
      have n1 := nx_call E P x1 P1
      have n2 := n1.trans (give_nx (ds := ds) n1.env n1.hp)
      exact h cls dd H' er' n2 (ExRep.cv (g := g.at (avC av ρ σ ds)) (av' := av) free_give q)
    | ok d μ' =>
      simp only [e2] at h
      intro v H' er' x1 P1 q
      have n1 := nx_call E P x1 P1
      by_cases hf : flatR d = true
      · rw [if_pos hf] at h
        exact h H' er' n1 v (.d (RepD.flat (g := g.at (avC av ρ σ ds)) (av' := av) hf q))
      · rw [if_neg hf] at h
        exact h H' er' (n1.trans (give_nx (ds := ds) n1.env n1.hp)) v (.d (RepD.cv (g := g.at (avC av ρ σ ds)) (av' := av) free_give q))
/-- a def of the module, as it may be called here -/
structure Fun (g : Gd) (X : Cx) (k : Nat) (x : Str) (np : Nat) (F : List D → Mu → Rf) : Prop where
  ex : ∃ (f : Addr) (fd : FuncData) (ps : List Str), FnOk X.prog X.w X.K X.mg X.base (L2.CX X.prog X.w) k f fd ps (spF g np F) ∧ X.mg x = some (.ref f) ∧ PySem.W.keepIn X.K (.ref f) = true ∧ L2.Binds X.K fd ps []
def evCall (np : Nat) (F : List D → Mu → Rf) (fa : Ro → Mu → Rs (List D)) : Ro → Mu → Rs D := fun ρ μ => (fa ρ μ).bind fun ds ρ1 μ1 => if ds.length = np then callF F ds ρ1 μ1 else .no
theorem OkE.call {k np : Nat} {x : Str} {F : List D → Mu → Rf} {e : Expr} {es : List Expr} {fa : Ro → Mu → Rs (List D)} {p pos : Pos} (C : Cxt g bl n N sc X) (Fx : Fun g X k x np F) (hk : k ≤ n) (hg : sc.names.lookup x = some .globalImplicit) (hd : (x == ("__debug__" : Str)) = false) (Oa : OkA g X (e :: es) fa)
    (he : starEach (e :: es) X.env = (false, eval e X.env) :: starEach es X.env := by rfl) (hpl : (backTo pos (starEach es X.env)).any (·.1) = false := by rfl) : OkE g X (.Call (.Name x p) (e :: es) [] pos) (evCall np F fa) := by
  intro av W σ er H ρ μ Q tk E P h
  obtain ⟨f, fd, ps, Fk, hm, kp, hb⟩ := Fx.ex
  refine .of (pe_callS Fk (C.room.mono hk) (C.gl hg) hm kp hb (E := WE W) (passAt tk) paR hd he hpl) (runA Oa tk E P h.toG fun ds ρ1 μ1 vs H1 er1 E1 P1 r1 h1 => ?_)
  split at h1
  · rename_i hl
    exact spF_of E1 P1 r1 hl h1
  · exact h1.elim
end
end GW

set_option maxHeartbeats 2000000
namespace GW
open PySem PySem.Spec PyProof.Rows L2
/-- what an __init__(self, f): self.f = f promises -/
def spI (K : PySem.W.Frag) (f : Str) : Sp := fun vs H Q E => ∃ a C v, vs = [.ref a, v] ∧ OexC K C ∧ PySem.W.findIn K (.ref C) f = some none ∧ H a = some (exo a C none) ∧ ∀ dx, H dx = none → dx ≠ a → Q .non (upd (upd H dx (exd dx [(f, v)])) a (exo a C (some dx)))
theorem init_fn {P : Program} {w : World} {K : PySem.W.Frag} {mg : Str → Option Value} {base : Heap} {fa : Addr} {name qual : Str} {params : Arguments} {scope : Scope} {dV kV doc pm cdv ct oc : Value} {an od : Option Addr}
    {osl : Array (Option Value)} {self f : Str} {p1 p2 p3 p4 : Pos} (lk : K.lookup fa = some ⟨oc, od, .func (PySem.W.fnOf name qual params [.Assign [.Attribute (.Name self p1) f p2] (.Name f p3) p4] scope dV kV doc pm an cdv ct), osl⟩) (hcd : PySem.W.codeIn K cdv qual = true) (S : FnScope [self, f] [self, f] scope)
    (h1 : (self == ("__debug__" : Str)) = false) (h2 : (self == ("__classdict__" : Str)) = false) (h3 : (f == ("__debug__" : Str)) = false) (h4 : (f == ("__classdict__" : Str)) = false) (v1 : Vis scope self) (v2 : Vis scope f) :
    FnOk P w K mg base (L2.CX P w) 1 fa (PySem.W.fnOf name qual params [.Assign [.Attribute (.Name self p1) f p2] (.Name f p3) p4] scope dV kV doc pm an cdv ct) [self, f] (spI K f) := by
  refine fn_of lk hcd S (fun vs H Q E ⟨a, C, v, e, _⟩ => by rw [e]; rfl) fun A outer s H vs Q E hr ⟨a, C, v, ev, T, hno, ha, q⟩ => ?_
  subst ev
  refine ⟨_, pss_one (ps_ost (pe_var (i := 0) rfl v1 h1 h2) (pe_var (i := 1) rfl v2 h3 h4)), ?_⟩
  refine ⟨v, rfl, .ref a, rfl, a, C, rfl, T, hno, .inl ⟨ha, fun dx n ne => q dx n ne⟩⟩
/-- a class of errors with one field -/
structure ExcK (g : Gd) (X : Cx) (x f : Str) : Prop where
  ex : ∃ (C fI : Addr) (fd : FuncData) (ps : List Str), OexC X.K C ∧ PySem.W.findIn X.K (.ref C) "__init__" = some (some (.ref fI)) ∧ PySem.W.typeIn X.K (.ref fI) = some (.type "function") ∧ FnOk X.prog X.w X.K X.mg X.base (L2.CX X.prog X.w) 1 fI fd ps (spI X.K f) ∧ L2.Binds X.K fd ps [] ∧ X.mg x = some (.ref C) ∧ PySem.W.findIn X.K (.ref C) f = some none
section
variable {g : Gd} {X : Cx} {W : WX} {σ : St} {er : Er} {H H2 : Hp} {ρ : Ro} {μ : Mu} {c : Nat} {ow ow' : Addr → Prop} {av : Addr → Prop} {bl : List Str} {n : Nat} {N : List Str} {sc : Scope} {α β : Type} {tg iter : Expr}
def sRaise (x f : Str) (fa : Ro → Mu → Rs D) : Ro → Mu → Rs Fl := fun ρ μ => (fa ρ μ).bind fun d ρ1 μ1 => (datR d ρ1 μ1).bind fun d ρ2 μ2 => .ex x [(f, d)] ρ2 μ2
theorem OkS.raise {x f : Str} {e : Expr} {fe : Ro → Mu → Rs D} {p cp pos : Pos} (C : Cxt g bl n N sc X) (K : ExcK g X x f) (hn : 2 ≤ n) (hg : sc.names.lookup x = some .globalImplicit) (hd : (x == ("__debug__" : Str)) = false) (O : OkE g X e fe)
    (he : starEach [e] X.env = (false, eval e X.env) :: starEach [] X.env := by rfl) (hpl : (backTo cp (starEach [] X.env)).any (·.1) = false := by rfl) : OkS g X (.Raise (some (.Call (.Name x p) [e] [] cp)) none pos) (sRaise x f fe) := by
  intro av W σ er H ρ μ Z tk E P h
  obtain ⟨Cc, fI, fd, ps, T, iC, tI, F1, hb, hm, hno⟩ := K.ex
  refine .of (ps_raise C.calm tk (pmk_oex (ds := []) (dvs := []) T iC tI F1 (C.room.mono hn) hb .nil (passes_call tk fun _ _ _ _ z => z.elim) (C.gl hg) hm (pa_cons peR pa_nil he) hd he hpl)) (runES O tk E P h fun d ρ1 μ1 v H1 er1 E1 P1 r1 h1 => ?_)
  obtain ⟨d', ρ2, E2, r2, h2⟩ := h1.dat E1 P1 r1
  refine ⟨by simp, fun a ha => ⟨a, Cc, v, rfl, T, hno, upd_same, fun dx hdx ne => ⟨rfl, dx, [(f, v)], upd_same, by rw [upd_ne ne, upd_same], ?_, ?_⟩⟩⟩
  · rw [upd_ne ne] at hdx; exact hdx
  · have hdx' : H1 dx = none := by rw [upd_ne ne] at hdx; exact hdx
    have eq : upd (del (upd (upd (upd H1 a (exo a Cc none)) dx (exd dx [(f, v)])) a (exo a Cc (some dx))) a) dx (.xd [(f, v)]) = upd H1 dx (.xd [(f, v)]) := by
      funext b
      by_cases e1 : b = dx
      · rw [e1, upd_same, upd_same]
      · rw [upd_ne e1, upd_ne e1]
        by_cases e2 : b = a
        · rw [e2, del_same, ha]
        · rw [del_ne e2, upd_ne e2, upd_ne e1, upd_ne e2]
    rw [eq]
    have m := nx_new (o := .xd [(f, v)]) E2 P1 hdx'
    exact h2 (.ref Cc) dx σ _ er1 m.s ⟨Cc, [(f, v)], rfl, by rw [← C.hm]; exact hm, upd_same, .cons (r2.nx m E2 P1) .nil⟩

/-! ### several clauses with a name -/
abbrev Hn := Value × Nat × (Addr → Value → Option Addr → TS)
def wManyA (K : PySem.W.Frag) (Wout : WX) (D : Ends) : List Hn → WX
  | [] => Wout
  | (c, i, ts) :: r => fun cls d σ H => ∃ b, PySem.W.exmOne K cls c = some b ∧ (b = true → ∀ a, H a = none → ts a cls d { nx := fun σ' H' => D.nx (σ'.set i none) H', rt := D.rt, bk := fun σ' H' => D.bk (σ'.set i none) H', ct := fun σ' H' => D.ct (σ'.set i none) H' } (σ.set i (some (.ref a))) H) ∧ (b = false → wManyA K Wout D r cls d σ H)
inductive HdsA (X : Cx) : List ExceptHandler → List Hn → Prop
  | nil : HdsA X [] []
  | cons {x nm : Str} {c : Value} {i : Nat} {ts : Addr → Value → Option Addr → TS} {b₀ : Stmt} {suite : List Stmt} {np pos' : Pos} {hds : List ExceptHandler} {l : List Hn} (hc : L2.Names X x c) (hi : X.N[i]? = some nm) (hln : X.env.kindOf nm = some .local)
      (hsu : ∀ (a : Addr) (oe : Obj) (cls : Value) (d : Option Addr) (pn : List (Addr × Obj)), X.base.get? a = none → Zc cls d oe → (∃ vs, oe.data = .fields vs) → PSs (X.suite a ((a, oe) :: pn)) (b₀ :: suite) (ts a cls d)) (r : HdsA X hds l) :
      HdsA X (.ExceptHandler (some (.Name x np)) (some nm) (b₀ :: suite) pos' :: hds) ((c, i, ts) :: l)
theorem ps_try_manyA {body : List Stmt} {h₀ : ExceptHandler} {hds : List ExceptHandler} {l : List Hn} {pos : Pos} {tb : WX → TS} {Wout : WX} (hs : X.stack = X.env :: X.outer) (hf : X.env.frame = some X.env.locals) (hN : X.N.Nodup) (tk : Takes X Wout)
    (hb : ∀ (W : WX) (pn : List (Addr × Obj)) (xe : Value → Shared → Prop), Takes (X.tr pn xe) W → PassesOwn (model X.prog X.w) X.A X.env xe → PSs (X.tr pn xe) body (tb W))
    (hh : HdsA X (h₀ :: hds) l) : PS X (.Try body (h₀ :: hds) [] [] pos) (fun D σ H => tb (wManyA X.K Wout D l) D σ H) := by
  refine ⟨fun pins s σ H D I h => ?_⟩
  have ok := I.ok
  have hfr : X.A.frames = some (X.env :: X.outer) := by rw [ok.frames, hs]
  refine wpAny_Try_except ?_
  refine wpAny_mono ((hb (wManyA X.K Wout D l) (X.pn ++ pins) (fun e s₁ => wpAny (model X.prog X.w) X.A (noteFrame e X.env) (fun _ s₂ => wpAny (model X.prog X.w) X.A (setFlight e none) (fun _ s₃ =>
    wpAny (model X.prog X.w) X.A (handleBy e X.env (h₀ :: hds)) (SP X pins D) X.xe s₃) X.xe s₂) X.xe s₁) (fun u s' xx => ?_) PassesOwn.looking).run [] s σ H D (I.toTry _) h) (fun f s1 hsp => ?_) (fun e s1 he => he)
  · obtain ⟨a, B, sI, pins', σ', H', cls, d, rfl, J', nb, up, sky, na, os, ag, w⟩ := xx
    have J : Inv X pins σ' H' sI := J'.ofTry ok
    have sky' : Sky B (X.env :: X.outer) a (Zc cls d) X.env.locals s'.heap := by rw [← hs]; exact sky
    show wpAny (model X.prog X.w) X.A (noteFrame (.ref a) X.env) _ _ _
    refine Sky.land Zc.steady hfr hf sky' fun h3 fl3 up3 => ?_
    have J3 : Inv X pins σ' H' { s' with heap := h3 } := J.landed nb fl3.1 (up.trans up3) os ag
    obtain ⟨oe3, vs3, he3, hz3, hd3⟩ := fl3.there
    have notFr : ∀ {h : Heap} {o : Obj} {vs : Array Value}, h.FunFrames B (X.env :: X.outer) → h.get? a = some o → o.data = .fields vs → a ∉ frs (X.env :: X.outer) := fun {h o vs} ff e dd hm => by
      obtain ⟨_, o', e', hnf⟩ := ff.mem hm
      rw [e] at e'; cases e'
      exact hnf _ dd
    have nfr := notFr fl3.2.2.1 he3 hd3
    have nL : a ≠ X.env.locals := fun z => nfr (List.mem_filterMap.mpr ⟨X.env, List.mem_cons_self, by rw [hf, z]⟩)
    have nF : a ∉ X.fs := fun hm => by
      obtain ⟨e, he, q⟩ := List.mem_filterMap.mp hm
      exact nfr (List.mem_filterMap.mpr ⟨e, List.mem_cons_of_mem _ he, q⟩)
    have hbs : X.base.get? a = none := by
      cases q : X.base.get? a with
      | none => rfl
      | some o =>
        by_cases hm : a ∈ frs X.stack
        · have z := (J.stack.mem hm).1
          rw [q] at z; cases z
        · have z := nb a o (J.bk a o q) hm
          rcases sky' with y | y | y <;> rw [y.2.1] at z <;> cases z
    have S3 := J3.suite he3 hd3 na nL nF
    have go : ∀ {hds' : List ExceptHandler} {l' : List Hn}, HdsA X hds' l' → wManyA X.K Wout D l' cls d σ' H' →
        wpAny (model X.prog X.w) X.A (handleBy (.ref a) X.env hds') (SP X pins D) X.xe { s' with heap := h3 } := by
      intro hds' l' hk
      induction hk with
      | nil =>
        intro w
        refine wpAny_handleBy_nil ?_
        obtain ⟨k1, k2, k3, oe, vs, T, oT, ts', he, hz, hd, h1, hr⟩ := id fl3
        unfold PySem.passOn
        refine wpAny_bind (wpAny_field he hd h1 ?_)
        rw [if_neg (show ¬ ((Value.ref T == Value.none) = true) from by simp)]
        have last : wpAny (model X.prog X.w) X.A (setFlight (.ref a) X.env.frame) (fun _ s4 => wpAny (model X.prog X.w) X.A (throw (.ref a) : Sem Flow) (SP X pins D) X.xe s4) X.xe { s' with heap := h3 } := by
          rw [hf]
          refine HandSPX.setFlight_upZ fl3 fun h4 hh4 up4 => wpAny_throw (tk _ _ ?_)
          exact ⟨a, B, sI, pins, σ', H', cls, d, rfl, J, nb, (up.trans up3).trans up4, .inr (.inr (by rw [hs]; exact hh4)), na, os, ag, w⟩
        first
          | exact wpAny_bind (wpAny_pure (wpAny_bind last))
          | exact wpAny_bind last
      | @cons x nm c i ts b₀ suite np pos' hds2 l2 hc hi hln hsu r ih =>
        intro w
        obtain ⟨b, hb1, hyes, hno⟩ := w
        refine wpAny_handleBy_cons (codeAny_handlers_test ?_) (by intro q; cases q)
        have LT : PySem.W.Looks (model X.prog X.w) h3 (typeOf (.ref a)) cls := fun A Q E s k q => wpAny_typeOf_ref (k _ _ he3) (by rw [hz3.1]; exact q)
        have LM := PySem.W.exm_one (M := model X.prog X.w) (J3.kIn) LT hb1
        have test : ∀ {Q : Value → Shared → Prop} {E : Value → Shared → Prop}, Q c { s' with heap := h3 } → wpAny (model X.prog X.w) (X.A.mark (some (.ref a))) (eval (.Name x np) X.env) Q E { s' with heap := h3 } := fun {Q E} q => by
          obtain ⟨hg, hdbg, hm | ⟨hm, hv, hnn⟩⟩ := hc
          · exact ld_glob (X := X.suite a ((a, oe3) :: (X.pn ++ pins))) S3 hg hm q hdbg
          · exact ld_blt (X := X.suite a ((a, oe3) :: (X.pn ++ pins))) S3 hg hm hv q hnn hdbg
        refine test (LM.here ?_)
        cases b with
        | true =>
          refine codeAny_handlers_suite_as ?_
          refine HandSPX.lands_againZ fl3 fun h4 fl4 up4 => ?_
          have J4 : Inv X pins σ' H' { s' with heap := h4 } := J.landed nb fl4.1 ((up.trans up3).trans up4) os ag
          obtain ⟨oe4, vs4, he4, hz4, hd4⟩ := fl4.there
          have S4 := J4.suite he4 hd4 na nL nF
          refine store_ok (X := X.suite a ((a, oe4) :: (X.pn ++ pins))) (v := .ref a) S4 hN hi (.inl hln) rfl (fun s5 S5 => ?_) (.inr hln)
          refine wpAny_mono ((hsu a oe4 cls d (X.pn ++ pins) hbs hz4 ⟨_, hd4⟩).run [] s5 _ H' _ S5 (hyes rfl a na)) (fun f s6 hsp => ?_) (fun _ _ z => False.elim z)
          have end_ : ∀ {σ6 : St} {H6 : Hp} {Q : Shared → Prop}, Inv (X.suite a ((a, oe4) :: (X.pn ++ pins))) [] σ6 H6 s6 → (∀ s7, Inv X pins (σ6.set i none) H6 s7 → Q s7) →
              wpAny (model X.prog X.w) X.A (do bindName X.env nm .none; unbindBehindTheSuite X.env nm pos') (fun _ s7 => Q s7) X.xe s6 := fun {σ6 H6 Q} S6 hq => gone_ok (S6.unsuite ok) hN hi hln hq
          cases f with
          | next =>
            obtain ⟨σ6, H6, S6, q6⟩ := hsp
            exact end_ S6 fun s7 J7 => ⟨_, _, J7, q6⟩
          | brk =>
            obtain ⟨σ6, H6, S6, q6⟩ := hsp
            exact end_ S6 fun s7 J7 => ⟨_, _, J7, q6⟩
          | cont =>
            obtain ⟨σ6, H6, S6, q6⟩ := hsp
            exact end_ S6 fun s7 J7 => ⟨_, _, J7, q6⟩
          | ret u =>
            obtain ⟨v6, σ6, H6, S6, r6, q6⟩ := hsp
            exact end_ S6 fun s7 J7 => ⟨_, _, _, J7, r6, q6⟩
        | false =>
          show wpAny _ X.A (handleBy (.ref a) X.env hds2) _ _ _
          exact ih (hno rfl)
    exact go hh w
  · cases f with
    | next =>
      obtain ⟨σ', H', J', q⟩ := hsp
      exact wpAny_execs_nil ⟨σ', H', J'.ofTry ok, q⟩
    | brk =>
      obtain ⟨σ', H', J', q⟩ := hsp
      exact ⟨σ', H', J'.ofTry ok, q⟩
    | cont =>
      obtain ⟨σ', H', J', q⟩ := hsp
      exact ⟨σ', H', J'.ofTry ok, q⟩
    | ret u =>
      obtain ⟨v, σ', H', J', r, q⟩ := hsp
      exact ⟨v, σ', H', J'.ofTry ok, r, q⟩
end
end GW

set_option maxHeartbeats 2000000
namespace GW
open PySem PySem.Spec PyProof.Rows L2
section
variable {g : Gd} {X : Cx} {W : WX} {σ : St} {er : Er} {H H2 : Hp} {ρ : Ro} {μ : Mu} {c : Nat} {ow ow' : Addr → Prop} {av : Addr → Prop} {bl : List Str} {n : Nat} {N : List Str} {sc : Scope} {α β : Type} {tg iter : Expr}
/-- the items of a display in an except suite: texts, None, e.f -/
inductive SuEls (nm f : Str) : List Expr → (V → List V) → (D → List D) → Prop
  | nil : SuEls nm f [] (fun _ => []) (fun _ => [])
  | str {x : Str} {j : Nat} {p : Pos} {es : List Expr} {fv : V → List V} {fd : D → List D} (r : SuEls nm f es fv fd) : SuEls nm f (.Constant (.str x) j p :: es) (fun v => .str x :: fv v) (fun d => .str x :: fd d)
  | non {j : Nat} {p : Pos} {es : List Expr} {fv : V → List V} {fd : D → List D} (r : SuEls nm f es fv fd) : SuEls nm f (.Constant .none j p :: es) (fun v => .non :: fv v) (fun d => .non :: fd d)
  | fld {p q : Pos} {es : List Expr} {fv : V → List V} {fd : D → List D} (r : SuEls nm f es fv fd) : SuEls nm f (.Attribute (.Name nm p) f q :: es) (fun v => v :: fv v) (fun d => d :: fd d)
theorem SuEls.rep {nm f : Str} {es : List Expr} {fv : V → List V} {fd : D → List D} (h : SuEls nm f es fv fd) {v : V} {d : D} (r : RepD g er c H ow v d) : RepDs g er c H ow (fv v) (fd d) := by
  induction h with
  | nil => exact .nil
  | str _ ih => exact .cons (.str _) ih
  | non _ ih => exact .cons .non ih
  | fld _ ih => exact .cons r ih
theorem SuEls.len {nm f : Str} {es : List Expr} {fv : V → List V} {fd : D → List D} (h : SuEls nm f es fv fd) (v : V) : (fv v).length = es.length := by
  induction h with
  | nil => rfl
  | str _ ih => simp [ih]
  | non _ ih => simp [ih]
  | fld _ ih => simp [ih]
/-- what is known of the exception at hand -/
structure Caught (X : Cx) (nm f : Str) (i : Nat) (a C dd : Addr) (v : V) (σ : St) (H : Hp) : Prop where
  sl : σ[i]? = some (some (.ref a))
  dict : H dd = some (.xd [(f, v)])
theorem SuEls.pa {nm f : Str} {i : Nat} {es : List Expr} {fv : V → List V} {fd : D → List D} {a C dd : Addr} {oe : Obj} {pn : List (Addr × Obj)} {v : V} (hi : X.N[i]? = some nm) (hl : X.env.scope.names.lookup nm = some .local) (hd : (nm == ("__debug__" : Str)) = false) (hcd : (nm == ("__classdict__" : Str)) = false)
    (T : XfC X.K C) (hno : PySem.W.findIn X.K (.ref C) f = some none) (hz : Zc (.ref C) (some dd) oe) (hf : ∃ vs, oe.data = .fields vs) (hb : ∀ p, attributeBase (.Name nm p) f X.env (eval (.Name nm p) X.env) = eval (.Name nm p) X.env) (h : SuEls nm f es fv fd) :
    ∃ t : TA, PA (X.suite a ((a, oe) :: pn)) es t ∧ ∀ σ H Q, Caught X nm f i a C dd v σ H → Q (fv v) H → t σ H Q := by
  induction h with
  | nil => exact ⟨_, pa_nil, fun σ H Q _ q => q⟩
  | str r ih => obtain ⟨t, h1, h2⟩ := ih; exact ⟨_, pa_cons pe_str h1, fun σ H Q k q => h2 σ H _ k q⟩
  | non r ih => obtain ⟨t, h1, h2⟩ := ih; exact ⟨_, pa_cons pe_non h1, fun σ H Q k q => h2 σ H _ k q⟩
  | fld r ih =>
    obtain ⟨t, h1, h2⟩ := ih
    refine ⟨_, pa_cons (pe_xf T hno hz hf (pe_var (X := X.suite a ((a, oe) :: pn)) (i := i) hi (.inl hl) hd hcd) (hb _)) h1, fun σ H Q k q => ?_⟩
    refine ⟨.ref a, k.sl, rfl, rfl, dd, _, v, rfl, k.dict, by simp [List.lookup], h2 σ H _ k q⟩
/-- a suite: what it makes of the field -/
def OkU (g : Gd) (X : Cx) (nm f : Str) (i : Nat) (suite : List Stmt) (sf : D → Ro → Mu → Rs Fl) : Prop := ∀ (av : Addr → Prop) (W : WX) (σ : St) (er : Er) (H : Hp) (ρ : Ro) (μ : Mu) (Z : Ends) (a C dd : Addr) (v : V) (d : D) (oe : Obj) (pn : List (Addr × Obj)), RepEnv (g.at av) er μ.ec H ρ σ → HpOk (g.at av) er H μ →
  XfC X.K C → PySem.W.findIn X.K (.ref C) f = some none → Zc (.ref C) (some dd) oe → (∃ vs, oe.data = .fields vs) → Caught X nm f i a C dd v σ H → RepD (g.at av) er μ.ec H (Ow ρ σ) v d → DenS (g.at av) W σ er H ρ μ (noX (sf d ρ μ)) Z → RunSs (X.suite a ((a, oe) :: pn)) suite Z σ H
/-- return [..] -/
def suL (fd : D → List D) : D → Ro → Mu → Rs Fl := fun d ρ μ => .ok (.rt (.lst μ.ec (fd d))) ρ μ
def suT (fd : D → List D) : D → Ro → Mu → Rs Fl := fun d ρ μ => .ok (.rt (.tup (fd d))) ρ μ
def suS (j : Nat) (fd : D → List D) : D → Ro → Mu → Rs Fl := fun d ρ μ => .ok .nx (ρ.set j (.val (.tup (fd d)))) μ
theorem small_len {k : Nat} (h : k ≤ 64) : k ≤ sizeLine := by rw [sizeLine_eq]; omega
section
variable {nm f : Str} {i : Nat} {es : List Expr} {fv : V → List V} {fd : D → List D} {p pos : Pos} {x1 : Nat}
theorem OkU.retL (C : Cxt g bl n N sc X) (hi : N[i]? = some nm) (hl : sc.names.lookup nm = some .local) (hd : (nm == ("__debug__" : Str)) = false) (hcd : (nm == ("__classdict__" : Str)) = false) (hz : es.length ≤ 64) (hb : ∀ p, attributeBase (.Name nm p) f X.env (eval (.Name nm p) X.env) = eval (.Name nm p) X.env) (S : SuEls nm f es fv fd) : OkU g X nm f i [.Return (some (.List es p)) pos] (suL fd) := by
  intro av W σ er H ρ μ Z a Cc dd v d oe pn E P T hno hzc hf k r h
  obtain ⟨t, h1, h2⟩ := S.pa (a := a) (dd := dd) (pn := pn) (v := v) (C.at hi) (by rw [C.hsc]; exact hl) hd hcd T hno hzc hf hb
  refine .of (pss_one (ps_ret (pe_lst h1))) (h2 σ H _ k ⟨by rw [S.len]; exact small_len hz, fun q hq => ?_⟩)
  exact h (.ref q) σ _ er (nx_new E P hq).s (.lst upd_same (era_new P hq) (free_new E P hq) (reps_new E P hq (S.rep r)))
theorem OkU.retT (C : Cxt g bl n N sc X) (hi : N[i]? = some nm) (hl : sc.names.lookup nm = some .local) (hd : (nm == ("__debug__" : Str)) = false) (hcd : (nm == ("__classdict__" : Str)) = false) (hz : es.length ≤ 64) (hb : ∀ p, attributeBase (.Name nm p) f X.env (eval (.Name nm p) X.env) = eval (.Name nm p) X.env) (S : SuEls nm f es fv fd) : OkU g X nm f i [.Return (some (.Tuple es x1 p)) pos] (suT fd) := by
  intro av W σ er H ρ μ Z a Cc dd v d oe pn E P T hno hzc hf k r h
  obtain ⟨t, h1, h2⟩ := S.pa (a := a) (dd := dd) (pn := pn) (v := v) (C.at hi) (by rw [C.hsc]; exact hl) hd hcd T hno hzc hf hb
  refine .of (pss_one (ps_ret (pe_tup h1))) (h2 σ H _ k ⟨by rw [S.len]; exact small_len hz, fun q hq => ?_⟩)
  exact h (.ref q) σ _ er (nx_new E P hq).s (.tup (.inl (.inl upd_same)) (reps_new E P hq (S.rep r)))
theorem OkU.setT {j : Nat} {y : Str} {py : Pos} (C : Cxt g bl n N sc X) (CS : CxS X) (hj : N[j]? = some y) (hlj : Loc sc y) (hi : N[i]? = some nm) (hl : sc.names.lookup nm = some .local) (hd : (nm == ("__debug__" : Str)) = false) (hcd : (nm == ("__classdict__" : Str)) = false) (hz : es.length ≤ 64) (hb : ∀ p, attributeBase (.Name nm p) f X.env (eval (.Name nm p) X.env) = eval (.Name nm p) X.env) (S : SuEls nm f es fv fd)
    (hs : swapsWith (.Tuple es x1 p) (some (.Name y py)) pos.line X.env = pure false) : OkU g X nm f i [.Assign [.Name y py] (.Tuple es x1 p) pos] (suS j fd) := by
  intro av W σ er H ρ μ Z a Cc dd v d oe pn E P T hno hzc hf k r h
  obtain ⟨t, h1, h2⟩ := S.pa (a := a) (dd := dd) (pn := pn) (v := v) (C.at hi) (by rw [C.hsc]; exact hl) hd hcd T hno hzc hf hb
  refine .of (pss_one (ps_set (X := X.suite a ((a, oe) :: pn)) C.ndup (C.at hj) (C.loc hlj) (pe_tup h1) hs (.inl (CS.fn y)))) (h2 σ H _ k ⟨by rw [S.len]; exact small_len hz, fun q hq => ?_⟩)
  have m := nx_new (o := .tup (fv v)) E P hq
  exact h _ _ er (m.s.trans (nxs_val m.env m.hp (.d (.tup (.inl (.inl upd_same)) (reps_new E P hq (S.rep r))))))
end
/-- a clause: its class, the field it reads, its name's slot, which classes it takes, what its suite makes -/
structure Cl where
  c : Str
  f : Str
  i : Nat
  m : Str → Option Bool
  sf : D → Ro → Mu → Rs Fl
def post (i : Nat) (r : Rs Fl) : Rs Fl := r.bind fun o ρ μ => .ok o (ρ.set i .un) μ
def hdR : List Cl → Str → List (Str × D) → Ro → Mu → Rs Fl
  | [], x, fs, ρ, μ => .ex x fs ρ μ
  | h :: r, x, fs, ρ, μ => match h.m x with
    | some true => if x = h.c then match fs with
        | [(f, d)] => if f = h.f ∧ isDat d = true then post h.i (noX (h.sf d (ρ.set h.i .un) μ)) else .no
        | _ => .no
      else .no
    | some false => hdR r x fs ρ μ
    | none => .no
def sTry (fb : Ro → Mu → Rs Fl) (hs : List Cl) : Ro → Mu → Rs Fl := fun ρ μ => match fb ρ μ with
  | .ex x fs ρ1 μ1 => hdR hs x fs ρ1 μ1
  | r => r
/-- the clauses of the text -/
inductive OkH (g : Gd) (X : Cx) : List ExceptHandler → List Cl → Prop
  | nil : OkH g X [] []
  | cons {nm : Str} {h : Cl} {b₀ : Stmt} {suite : List Stmt} {np pos' : Pos} {hds : List ExceptHandler} {l : List Cl} {C : Addr} (hc : L2.Names X h.c (.ref C)) (hC : X.mg h.c = some (.ref C)) (hi : X.N[h.i]? = some nm) (hln : X.env.kindOf nm = some .local)
      (hm : ∀ x D b, h.m x = some b → X.mg x = some (.ref D) → PySem.W.exmOne X.K (.ref D) (.ref C) = some b) (T : XfC X.K C) (hno : PySem.W.findIn X.K (.ref C) h.f = some none) (hu : OkU g X nm h.f h.i (b₀ :: suite) h.sf) (r : OkH g X hds l) :
      OkH g X (.ExceptHandler (some (.Name h.c np)) (some nm) (b₀ :: suite) pos' :: hds) (h :: l)
abbrev suRd (X : Cx) (suite : List Stmt) : Addr → Value → Option Addr → TS := fun a cls d D σ H => ∀ (oe : Obj) (pn : List (Addr × Obj)), X.base.get? a = none → Zc cls d oe → (∃ vs, oe.data = .fields vs) → RunSs (X.suite a ((a, oe) :: pn)) suite D σ H
theorem put_un {i : Nat} {v : V} (E : RepEnv g er μ.ec H ρ σ) (P : HpOk g er H μ) : NxS g σ er H ρ μ (σ.set i (some v)) er H (ρ.set i .un) μ where
  x := Ext.refl ..
  env := RepEnv.put (g := g) (av' := g.av) E (free_sub fun a => ow_val rfl) (fun _ h => h) True.intro (fun z => by cases z)
  hp := P
  ow := fun a h => .inl (ow_val rfl h)
theorem put_none {i : Nat} (E : RepEnv g er μ.ec H ρ σ) (P : HpOk g er H μ) : NxS g σ er H ρ μ (σ.set i none) er H (ρ.set i .un) μ where
  x := Ext.refl ..
  env := E.wiped (vs := [i])
  hp := P
  ow := fun a h => .inl (ow_wipe (vs := [i]) h)
theorem hds_of {Wout : WX} {Z : Ends} {hds : List ExceptHandler} {l : List Cl} (Oh : OkH g X hds l) (hmg : X.mg = g.mg) : ∃ l' : List Hn, HdsA X hds l' ∧ ∀ (av : Addr → Prop) (σ : St) (er : Er) (H : Hp) (ρ : Ro) (μ : Mu) (x : Str) (fs : List (Str × D)) (cls : Value) (dd : Addr),
    RepEnv (g.at av) er μ.ec H ρ σ → HpOk (g.at av) er H μ → ExRep (g.at av) er μ.ec (Ow ρ σ) H x fs cls dd → DenS (g.at av) Wout σ er H ρ μ (hdR l x fs ρ μ) Z → wManyA X.K Wout Z l' cls (some dd) σ H := by
  induction Oh with
  | nil => exact ⟨[], .nil, fun av σ er H ρ μ x fs cls dd E P r h => h cls dd σ H er (.refl E P) r⟩
  | @cons nm h b₀ suite np pos' hds l C hc hC hi hln hm T hno hu r ih =>
    obtain ⟨l', i1, i2⟩ := ih
    refine ⟨(.ref C, h.i, suRd X (b₀ :: suite)) :: l', .cons hc hi hln (fun a oe cls d pn hb hz hf => ⟨fun pins s σ H D I q => q oe pn hb hz hf pins s I⟩) i1, fun av σ er H ρ μ x fs cls dd E P r h' => ?_⟩
    obtain ⟨Cx', vs, ec, em, ed, ef⟩ := id r
    subst ec
    unfold hdR at h'
    cases e1 : h.m x with
    | none => rw [e1] at h'; exact h'.elim
    | some b =>
      rw [e1] at h'
      refine ⟨b, hm x _ b e1 (by rw [hmg]; exact em), fun hb a ha => ?_, fun hb => ?_⟩
      · subst hb
        simp only at h'
        split at h'
        · rename_i ex
          subst ex
          split at h'
          · rename_i f d
            split at h'
            · rename_i hfd
              obtain ⟨hf1, hf2⟩ := hfd
              subst hf1
              cases ef with
              | @cons _ v _ ws _ hv hr =>
              cases hr
              intro oe pn _ hz hfo pins s I
              have eC : Cx' = C := by
                have h1 : X.mg h.c = some (.ref Cx') := by rw [hmg]; exact em
                rw [hC] at h1; cases h1; rfl
              subst eC
              have m1 := put_un (i := h.i) (v := .ref a) E P
              have il : h.i < σ.length := by
                have h1 := (List.getElem?_eq_some_iff.mp hi).1
                have h2 := I.len
                rw [List.length_set] at h2
                rw [h2]; exact h1
              refine hu av (fun _ _ _ _ => False) _ er H _ μ _ a Cx' dd v d oe pn m1.env m1.hp T hno hz hfo ⟨set_get il, ed⟩ (RepD.less (fun b => ow_val rfl) hv) ?_ pins s I
              cases e2 : noX (h.sf d (ρ.set h.i .un) μ) with
              | no => unfold post at h'; rw [e2] at h'; exact h'.elim
              | ex _ _ _ _ => exfalso; cases e3 : h.sf d (ρ.set h.i .un) μ <;> rw [e3] at e2 <;> cases e2
              | ok o ρ2 μ2 =>
                unfold post at h'
                rw [e2] at h'
                simp only [Rs.bind_ok] at h'
                cases o with
                | nx => exact fun σ2 H2 er2 m2 => h' _ H2 er2 ((m1.trans m2).trans (put_none m2.env m2.hp))
                | rt d2 => exact fun v2 σ2 H2 er2 m2 q2 => h' v2 _ H2 er2 ((m1.trans m2).trans (put_none m2.env m2.hp)) (RepD.less (fun b => ow_wipe (vs := [h.i])) q2)
            · exact h'.elim
          · exact h'.elim
        · exact h'.elim
      · subst hb
        exact i2 av σ er H ρ μ x fs _ dd E P r h'
/-- a def's frame, for except -/
structure CxT (X : Cx) : Prop where
  st : X.stack = X.env :: X.outer
  fr : X.env.frame = some X.env.locals
theorem OkS.try {body : List Stmt} {h₀ : ExceptHandler} {hds : List ExceptHandler} {l : List Cl} {fb : Ro → Mu → Rs Fl} {pos : Pos} (C : Cxt g bl n N sc X) (T : CxT X) (Ob : ∀ pn xe, PassesOwn (model X.prog X.w) X.A X.env xe → OkSs g (X.tr pn xe) body fb) (Oh : OkH g X (h₀ :: hds) l) : OkS g X (.Try body (h₀ :: hds) [] [] pos) (sTry fb l) := by
  intro av W σ er H ρ μ Z tk E P h
  obtain ⟨l', h1, h2⟩ := hds_of (Wout := W) (Z := Z) Oh C.hm
  refine .of (ps_try_manyA (tb := fun W' D σ H => ∀ pn xe, Takes (X.tr pn xe) W' → PassesOwn (model X.prog X.w) X.A X.env xe → RunSs (X.tr pn xe) body D σ H) T.st T.fr C.ndup tk (fun W' pn xe tk' ow => ⟨fun pins s σ H D I q => q pn xe tk' ow pins s I⟩) h1) fun pn xe tk' ow => ?_
  refine Ob pn xe ow av (wManyA X.K W Z l') σ er H ρ μ Z tk' E P ?_
  unfold sTry at h
  cases e : fb ρ μ with
  | ok o ρ1 μ1 => rw [e] at h; cases o <;> exact h
  | no => rw [e] at h; exact h
  | ex x fs ρ1 μ1 =>
    rw [e] at h
    exact fun cls dd σ1 H1 er1 m r => h2 av σ1 er1 H1 ρ1 μ1 x fs cls dd m.env m.hp r (DenS.nxs m h)
end
end GW

set_option maxHeartbeats 2000000
namespace GW
open PySem PySem.Spec PyProof.Rows L2
section
variable {g : Gd} {X : Cx} {W : WX} {σ : St} {er : Er} {H H2 : Hp} {ρ : Ro} {μ : Mu} {c : Nat} {ow ow' : Addr → Prop} {av : Addr → Prop} {bl : List Str} {n : Nat} {N : List Str} {sc : Scope} {α β : Type} {tg iter : Expr}
/-- more is tracked -/
def Sub (H H2 : Hp) : Prop := ∀ a o, H a = some o → H2 a = some o
theorem Sub.hid {cl : List (Str × Addr)} (s : Sub H H2) : Sub (hid cl H) (hid cl H2) := fun a o h => by
  obtain ⟨h1, h2⟩ := hid_some h
  rw [hid_out h1]; exact s a o h2
theorem CellsO.up {cl : List (Str × Addr)} (s : Sub H H2) : ∀ {xs : List Str} {vs : List V}, CellsO H cl xs vs → CellsO H2 cl xs vs
  | _, _, .nil => .nil
  | _, _, .cons h1 h2 h3 h4 r => .cons h1 (s _ _ h2) h3 h4 (CellsO.up s r)
mutual
theorem RepV.up : ∀ {H H2 : Hp} {v : V} {d : D}, Sub H H2 → RepV g er c ow H v d → RepV g er c ow H2 v d
  | _, _, _, _, s, .d h => .d (RepD.up s h)
  | _, _, _, _, s, .sta => .sta
  | _, _, _, _, s, .clo hL hj h1 hc ha hv r => .clo hL hj (s _ _ h1) (s _ _ hc) (fun p hp => let ⟨o, q, z⟩ := ha p hp; ⟨o, s _ _ q, z⟩) (CellsO.up s hv) (RepVs.up s.hid r)
theorem RepVs.up : ∀ {H H2 : Hp} {vs : List V} {ds : List D}, Sub H H2 → RepVs g er c ow H vs ds → RepVs g er c ow H2 vs ds
  | _, _, _, _, _, .nil => .nil
  | _, _, _, _, s, .cons h r => .cons (RepV.up s h) (RepVs.up s r)
end
theorem RepDs.up (s : Sub H H2) : ∀ {vs : List V} {ds : List D}, RepDs g er c H ow vs ds → RepDs g er c H2 ow vs ds
  | _, _, .nil => .nil
  | _, _, .cons h r => .cons (RepD.up s h) (RepDs.up s r)
theorem RepFs.up (s : Sub H H2) {vs : List (Str × V)} {ds : List (Str × D)} (h : RepFs g er c ow H vs ds) : RepFs g er c ow H2 vs ds := by
  induction h with
  | nil => exact .nil
  | cons h r ih => exact .cons (RepD.up s h) ih
theorem RepPs.up (s : Sub H H2) {vs : List V} {ds : List D} (h : RepPs g er c H vs ds) : RepPs g er c H2 vs ds := by
  induction h with
  | nil => exact .nil
  | cons h r ih => exact .cons (RepV.up s h) ih
theorem Sub.ne {a : Addr} (s : Sub H H2) (h : H a ≠ none) : H2 a ≠ none := by
  cases e : H a with
  | none => exact absurd e h
  | some o => rw [s a o e]; exact fun z => nomatch z
theorem HpOk.up (s : Sub H H2) (P : HpOk g er H μ) : HpOk g er H2 μ := ⟨s _ _ P.sa, s _ _ P.sb, P.ne, P.mu, fun a h => s.ne (P.er a h), P.tabs.ext s, fun a h => s.ne (P.av a h), P.nav⟩
/-- without what stands at these addresses -/
def hidL (ks : List Addr) (H : Hp) : Hp := fun b => if b ∈ ks then none else H b
theorem hidL_in {ks : List Addr} {b : Addr} (h : b ∈ ks) : hidL ks H b = none := if_pos h
theorem hidL_out {ks : List Addr} {b : Addr} (h : b ∉ ks) : hidL ks H b = H b := if_neg h
theorem hid_L {cl : List (Str × Addr)} : hid cl H = hidL (cl.map (·.2)) H := rfl
theorem hidL_some {ks : List Addr} {b : Addr} {o : HO} (h : hidL ks H b = some o) : b ∉ ks ∧ H b = some o := by
  by_cases hb : b ∈ ks
  · rw [hidL_in hb] at h; cases h
  · exact ⟨hb, (hidL_out hb).symm.trans h⟩
theorem hidL_none {ks : List Addr} {b : Addr} (h : H b = none) : hidL ks H b = none := by
  by_cases hb : b ∈ ks
  · exact hidL_in hb
  · rw [hidL_out hb]; exact h
/-- only such things stand there that are told by one object -/
def Exts (ks : List Addr) (H : Hp) : Prop := ∀ a ∈ ks, ∃ φ, H a = some (.ext φ) ∧ NoEx a φ
theorem Exts.out {ks : List Addr} (x : Exts ks H) {a : Addr} {o : HO} (h : H a = some o) (hn : ∀ φ, o ≠ .ext φ) : a ∉ ks ∧ hidL ks H a = some o := by
  have : a ∉ ks := fun z => by
    obtain ⟨φ, q, _⟩ := x a z
    rw [h] at q
    exact hn _ (Option.some.inj q)
  exact ⟨this, by rw [hidL_out this]; exact h⟩
theorem Exts.outX {ks : List Addr} (x : Exts ks H) {a C : Addr} {od : Option Addr} {φ : Heap → Prop} (h : H a = some (.ext φ)) (hp : ExcP C od a φ) : hidL ks H a = some (.ext φ) := by
  have : a ∉ ks := fun z => by
    obtain ⟨φ', q, n⟩ := x a z
    rw [h] at q
    cases q
    exact n _ _ hp
  rw [hidL_out this]; exact h
theorem cells_exts {cl : List (Str × Addr)} (ha : AllCells cl H) : Exts (cl.map (·.2)) H := fun a h => by
  obtain ⟨p, hp, e⟩ := List.mem_map.mp h
  obtain ⟨o, q, v, hv⟩ := ha p hp
  exact ⟨_, by rw [← e]; exact q, by rw [← e]; exact noEx_of (by rw [hv]; exact fun z => nomatch z) (fun vs => by rw [hv]; exact fun z => nomatch z)⟩
/-- data has to do with no such things -/
theorem RepD.hide {ks : List Addr} (x : Exts ks H) {v : V} {d : D} (r : RepD g er c H ow v d) : RepD g er c (hidL ks H) ow v d := by
  have rd : ∀ {a : Addr} {u : HO}, Rd H a u → (∀ φ, u ≠ .ext φ) → Rd (hidL ks H) a u := fun {a u} h hn => by
    rcases h with h | ⟨o, h⟩
    · exact .inl (x.out h hn).2
    · exact .inr ⟨o, (x.out h fun φ z => nomatch z).2⟩
  exact RepD.rec (motive_1 := fun v d _ => RepD g er c (hidL ks H) ow v d) (motive_2 := fun v d _ => RepDs g er c (hidL ks H) ow v d) (motive_3 := fun v d _ => RepKs g er c (hidL ks H) ow v d)
    .non (fun b => .bl b) (fun b => .int b) (fun b => .str b) (fun h _ r => .tup (h.elim (fun h => .inl (rd h fun φ z => nomatch z)) .inr) r) (fun h he hf _ r => .lst (x.out h fun φ z => nomatch z).2 he hf r)
    (fun h he hf nd _ r => .dic (rd h fun φ z => nomatch z) he hf nd r) (fun h hx => .fn h hx) (fun v => .any v) (fun _ r => .lab r) (fun hx h hp hd => .exc hx (x.outX h hp) hp (hd.up fun _ _ q => (x.out q fun φ z => nomatch z).2)) .nil (fun _ _ a b => .cons a b) .nil (fun _ _ a b => .cons a b) r
/-- eras that are the same where anything stands -/
theorem era_eq {er' : Er} {e : Nat} {a : Addr} (h : ∀ e, er e a ↔ er' e a) (k : EraOk er c e a) : EraOk er' c e a := ⟨k.1, fun z => k.2.1 ((h e).mpr z), fun e' h1 h2 => (h e').mp (k.2.2 e' h1 h2)⟩
theorem RepD.erx {er' : Er} (h : ∀ e a, H a ≠ none → (er e a ↔ er' e a)) {v : V} {d : D} (r : RepD g er c H ow v d) : RepD g er' c H ow v d :=
  RepD.rec (motive_1 := fun v d _ => RepD g er' c H ow v d) (motive_2 := fun v d _ => RepDs g er' c H ow v d) (motive_3 := fun v d _ => RepKs g er' c H ow v d)
    .non (fun b => .bl b) (fun b => .int b) (fun b => .str b) (fun h _ r => .tup h r) (fun ha he hf _ r => .lst ha (era_eq (fun e => h e _ (rd_ne (.inl ha))) he) hf r)
    (fun ha he hf nd _ r => .dic ha (era_eq (fun e => h e _ (rd_ne ha)) he) hf nd r) (fun h hx => .fn h hx) (fun v => .any v) (fun _ r => .lab r) (fun hx h hp hd => .exc hx h hp hd) .nil (fun _ _ a b => .cons a b) .nil (fun _ _ a b => .cons a b) r
mutual
theorem RepV.erx {er' : Er} : ∀ {H : Hp} {v : V} {d : D}, (∀ e a, H a ≠ none → (er e a ↔ er' e a)) → RepV g er c ow H v d → RepV g er' c ow H v d
  | _, _, _, h, .d r => .d (RepD.erx h r)
  | _, _, _, _, .sta => .sta
  | _, _, _, h, .clo hL hj h1 hc ha hv r => .clo hL hj h1 hc ha hv (RepVs.erx (fun e a na => h e a fun z => na (hid_none z)) r)
theorem RepVs.erx {er' : Er} : ∀ {H : Hp} {vs : List V} {ds : List D}, (∀ e a, H a ≠ none → (er e a ↔ er' e a)) → RepVs g er c ow H vs ds → RepVs g er' c ow H vs ds
  | _, _, _, _, .nil => .nil
  | _, _, _, h, .cons q r => .cons (RepV.erx h q) (RepVs.erx h r)
end
theorem RepFs.erx {er' : Er} {vs : List (Str × V)} {ds : List (Str × D)} (h : ∀ e a, H a ≠ none → (er e a ↔ er' e a)) (r : RepFs g er c ow H vs ds) : RepFs g er' c ow H vs ds := by
  induction r with
  | nil => exact .nil
  | cons q r ih => exact .cons (RepD.erx h q) ih
theorem mem_hidL {ks : List Addr} {a : Addr} (h : hidL ks H a ≠ none) : a ∉ ks ∧ H a ≠ none := by
  by_cases hb : a ∈ ks
  · rw [hidL_in hb] at h; exact absurd rfl h
  · rw [hidL_out hb] at h; exact ⟨hb, h⟩
/-- the draws' state without these -/
theorem HpOk.hide {ks : List Addr} (x : Exts ks H) (hn : ∀ a ∈ ks, ∀ q, H a ≠ some (LamX.CodeO a q)) {er' : Er} (he : ∀ a, er' μ.ec a → a ∉ ks ∧ er μ.ec a) {av' : Addr → Prop} (hv : ∀ a, av' a → a ∉ ks ∧ g.av a) (p : HpOk g er H μ) : HpOk (g.at av') er' (hidL ks H) μ where
  sa := (x.out p.sa fun φ z => nomatch z).2
  sb := (x.out p.sb fun φ z => nomatch z).2
  ne := p.ne
  mu := p.mu
  er := fun a z => by rw [hidL_out (he a z).1]; exact p.er a (he a z).2
  tabs := fun q hq => by
    obtain ⟨ps, h1, h2, h3⟩ := p.tabs q hq
    refine ⟨ps, (x.out h1 fun φ z => nomatch z).2, h2, fun pos cv e => ?_⟩
    obtain ⟨c', e1, e2⟩ := h3 pos cv e
    refine ⟨c', e1, ?_⟩
    rw [hidL_out]
    · exact e2
    · exact fun z => hn c' z _ e2
  av := fun a z => by rw [hidL_out (hv a z).1]; exact p.av a (hv a z).2
  nav := ⟨fun z => p.nav.1 (hv _ z).2, fun z => p.nav.2 (hv _ z).2⟩
end
/-! ### a lambda's frame -/
/-- the names of a lambda: its parameters, then what it captures -/
structure LamS (L : LamD) (ps : List Str) : Prop where
  kind : L.scope.kind = .function
  co : L.scope.isCoroutine = false
  gen : L.scope.isGenerator = false
  nocell : ∀ y ∈ L.scope.names, y.2 ≠ .cell
  par : ∀ x ∈ ps, L.scope.names.lookup x = some .local
  loc : ∀ x, L.scope.names.lookup x = some .local → x ∈ ps
  free : ∀ x, L.scope.names.lookup x = some .free → x ∈ L.fr
  frs : ∀ x ∈ L.fr, L.scope.names.lookup x = some .free
  nd : (ps ++ L.fr).Nodup
def lcx (P : Program) (w : World) (K : PySem.W.Frag) (mg : Str → Option Value) (base : Heap) (L : LamD) (ps : List Str) (A : Around) (outer : List Env) (s : Shared) (H : Hp) (E : XK) (cl : List (Str × Addr)) (f c' : Addr) : Cx where
  prog := P
  w := w
  K := K
  mg := mg
  base := base
  A := A.deeper (PySem.W.envX L.q L.scope s.heap.objs.size f (.ref c') cl)
  N := ps ++ L.fr
  s_0 := s
  H_0 := H
  env := PySem.W.envX L.q L.scope s.heap.objs.size f (.ref c') cl
  outer := outer
  stack := PySem.W.envX L.q L.scope s.heap.objs.size f (.ref c') cl :: outer
  ex := []
  fn := fun _ => false
  calm := true
  pn := []
  xe := fun e s' => wpAny (model P w) (A.deeper (PySem.W.envX L.q L.scope s.heap.objs.size f (.ref c') cl)) (leaving (PySem.W.envX L.q L.scope s.heap.objs.size f (.ref c') cl) e) (fun _ s'' => L2.CX P w outer H s E e s'') (fun e' s'' => L2.CX P w outer H s E e' s'') s'
theorem cells_look {H : Hp} {cl : List (Str × Addr)} {xs : List Str} {vs : List V} (h : CellsO H cl xs vs) : ∀ {i : Nat} {x : Str} {v : V}, xs[i]? = some x → vs[i]? = some v → ∃ c o u, cl.lookup x = some c ∧ H c = some (CellO o c) ∧ o.data = .cell (some u) ∧ RelV v u := by
  induction h with
  | nil => intro i x v h; cases h
  | @cons x c o u v xs vs h1 h2 h3 h4 r ih =>
    intro i x' v' e1 e2
    cases i with
    | zero => cases e1; cases e2; exact ⟨c, o, u, h1, h2, h3, h4⟩
    | succ i => exact ih e1 e2
theorem cells_has {H : Hp} {cl : List (Str × Addr)} {xs : List Str} {vs : List V} (h : CellsO H cl xs vs) : ∀ {x : Str}, x ∈ xs → ∃ c, cl.lookup x = some c := by
  induction h with
  | nil => intro x h; cases h
  | @cons x c o u v xs vs h1 h2 h3 h4 r ih =>
    intro x' hx
    rcases List.mem_cons.mp hx with rfl | hx
    · exact ⟨c, h1⟩
    · exact ih hx
theorem cells_len {H : Hp} {cl : List (Str × Addr)} {xs : List Str} {vs : List V} (h : CellsO H cl xs vs) : xs.length = vs.length := by
  induction h with
  | nil => rfl
  | cons _ _ _ _ _ ih => simp [ih]
theorem look_mem {cl : List (Str × Addr)} {x : Str} {c : Addr} (h : cl.lookup x = some c) : c ∈ cl.map (·.2) := List.mem_map.mpr ⟨(x, c), PySem.mem_of_lookup h, rfl⟩
theorem zip_look : ∀ {ps : List Str} {us : List Value} {i : Nat} {x : Str} {u : Value}, ps.Nodup → ps[i]? = some x → us[i]? = some u → (ps.zip us).reverse.lookup x = some u := by
  intro ps us i x u nd h1 h2
  have key : ∀ {l : List (Str × Value)}, (l.map (·.1)).Nodup → (x, u) ∈ l → l.lookup x = some u := by
    intro l
    induction l with
    | nil => intro _ h; cases h
    | cons p r ih =>
      intro nd h
      rw [List.map_cons, List.nodup_cons] at nd
      obtain ⟨a, b⟩ := p
      rcases List.mem_cons.mp h with e | h
      · cases e; simp [List.lookup]
      · have ne : x ≠ a := fun z => nd.1 (List.mem_map.mpr ⟨(x, u), h, z⟩)
        rw [List.lookup_cons]
        have : (x == a) = false := by simpa using ne
        rw [this]; exact ih nd.2 h
  refine key ?_ ?_
  · rw [List.map_reverse]
    refine (List.reverse_perm _).nodup_iff.mpr ?_
    have : ((ps.zip us).map (·.1)).Sublist ps := by
      clear key h1 h2 nd
      induction ps generalizing us with
      | nil => simp
      | cons p ps ih => cases us with
        | nil => simp
        | cons u us => simp only [List.zip_cons_cons, List.map_cons]; exact (ih (us := us)).cons₂ p
    exact this.nodup nd
  · rw [List.mem_reverse]
    refine List.mem_iff_getElem?.mpr ⟨i, ?_⟩
    rw [List.getElem?_zip_eq_some]
    exact ⟨h1, h2⟩
theorem inv_lam {P : Program} {w : World} {K : PySem.W.Frag} {mg : Str → Option Value} {base : Heap} {L : LamD} {ps : List Str} {A : Around} {outer : List Env} {s : Shared} {H : Hp} {E : XK} {cl : List (Str × Addr)} {f c' : Addr} {as vs : List V} {us : List Value} {h₁ : Heap} {tk : Nat}
    (S : LamS L ps) (hj : ∀ x y b, cl.lookup x = some b → cl.lookup y = some b → x = y) (ha : AllCells cl H) (hv : CellsO H cl L.fr vs) (e0 : Env0 P w K mg base A outer s H) (hd : A.handled = none) (ra : Vals as us) (hl : as.length = ps.length)
    (hns : h₁.Ns s.heap.objs.size fun y => (ps.zip us).reverse.lookup y) (kp : ∀ b o, s.heap.get? b = some o → h₁.get? b = some o) :
    Inv (lcx P w K mg base L ps A outer s (hid cl H) E cl f c') [] (as.map some ++ vs.map some) (hid cl H) { s with heap := h₁, toks := tk } := by
  have noA : ∀ b : Addr, b ∉ (lcx P w K mg base L ps A outer s (hid cl H) E cl f c').ex := fun b z => absurd (show b ∈ ([] : List Addr) from z) (by simp)
  have cellAt : ∀ {y : Str} {c : Addr}, cl.lookup y = some c → ∃ o v, H c = some (CellO o c) ∧ o.data = .cell v ∧ s.heap.get? c = some o := fun {y c} e => by
    obtain ⟨o, h1, v, h2⟩ := ha (y, c) (PySem.mem_of_lookup e)
    have h1 : H c = some (CellO o c) := h1
    have := e0.hok c _ h1
    exact ⟨o, v, h1, h2, this.1⟩
  refine ⟨⟨e0.mod, S.kind, rfl, rfl, Nat.le_refl _, hj, fun y hy => ?_, fun y c z _ => ?_, fun _ => hd, Around.frames_deeper e0.frames, .inr ⟨rfl, rfl⟩, fun b z => absurd z (noA b), fun b o e => ⟨(e0.bs b o e).1, hid_none (e0.bs b o e).2⟩, e0.bsz, fun b _ _ => noA b,
      fun b z => absurd z (noA b), e0.funs, fun b hb => hid_none (e0.frf b hb)⟩,
    rfl, e0.bare, Un.kept kp, ⟨_, hns, fun i y v e1 e2 e3 => ?_⟩, fun y c e => ?_, hid_none (e0.hok.fresh (Nat.le_refl _)), fun y c e => hid_in (look_mem e), fun q hq => absurd (show q ∈ ([] : List (Addr × Obj)) ++ [] from hq) (by simp), fun b o e => ?_, ?_⟩
  · have hy : L.scope.names.lookup y = some .cell ∨ L.scope.names.lookup y = some .free := hy
    rcases hy with hy | hy
    · exact absurd rfl (S.nocell _ (PySem.mem_of_lookup hy))
    · exact cells_has hv (S.free y hy)
  · have z : false = true := z
    cases z
  · have e3 : Vis L.scope y := e3
    have e1 : (ps ++ L.fr)[i]? = some y := e1
    have e2 : (as.map some ++ vs.map some)[i]? = some (some v) := e2
    have hal : (as.map some).length = ps.length := by rw [List.length_map, hl]
    by_cases hi : i < ps.length
    · rw [List.getElem?_append_left hi] at e1
      rw [List.getElem?_append_left (by rw [hal]; exact hi), List.getElem?_map] at e2
      obtain ⟨v', e4, e5⟩ := Option.map_eq_some_iff.mp e2
      cases e5
      obtain ⟨u, e6, e7⟩ := ra.get e4
      exact ⟨u, e7, .inl ⟨S.par y (List.mem_of_getElem? e1), zip_look (List.nodup_append.mp S.nd).1 e1 e6⟩⟩
    · rw [List.getElem?_append_right (Nat.le_of_not_lt hi)] at e1
      rw [List.getElem?_append_right (by rw [hal]; exact Nat.le_of_not_lt hi), hal, List.getElem?_map] at e2
      obtain ⟨v', e4, e5⟩ := Option.map_eq_some_iff.mp e2
      cases e5
      obtain ⟨c, o, u, h1, h2, h3, h4⟩ := cells_look hv e1 e4
      refine ⟨u, h4, .inr ⟨.inr (S.frs y (List.mem_of_getElem? e1)), c, h1, ?_⟩⟩
      obtain ⟨o', v', h5, _, h6⟩ := cellAt h1
      rw [h2] at h5
      have : o = o' := by
        have h7 := e0.hok c _ h2
        have h8 : s.heap.get? c = some o := h7.1
        rw [h6] at h8; cases h8; rfl
      subst this
      exact ⟨o, kp _ _ h6, h3⟩
  · obtain ⟨o, v, _, h2, h3⟩ := cellAt (show cl.lookup y = some c from e)
    exact ⟨v, o, kp _ _ h3, h2⟩
  · obtain ⟨hb, q⟩ := hid_some e
    have nx : ∀ {d : Addr} {u : HO}, H d = some u → (∀ φ, u ≠ .ext φ) → hid cl H d = some u := fun {d u} h hn => by
      rw [hid_out]
      · exact h
      · intro z
        obtain ⟨p, hp, e⟩ := List.mem_map.mp z
        obtain ⟨o', q, _⟩ := ha p hp
        rw [e, h] at q
        exact hn _ (Option.some.inj q)
    exact (e0.hok b o q).stay (fun d v _ q => kp d v q) (fun d q => nx q fun φ z => nomatch z) fun d xs q => nx q fun φ z => nomatch z
  · show (as.map some ++ vs.map some).length = (ps ++ L.fr).length
    rw [List.length_append, List.length_append, List.length_map, List.length_map, hl, cells_len hv]
/-- what stood there, beside what has come -/
def unh (ks : List Addr) (H H' : Hp) : Hp := fun b => if b ∈ ks then H b else H' b
theorem unh_in {ks : List Addr} {H H' : Hp} {b : Addr} (h : b ∈ ks) : unh ks H H' b = H b := if_pos h
theorem unh_out {ks : List Addr} {H H' : Hp} {b : Addr} (h : b ∉ ks) : unh ks H H' b = H' b := if_neg h
/-- the abstract heap with its cells again -/
theorem unh_un {P : Program} {w : World} {ks : List Addr} {fs : List Addr} {H H' : Hp} {h h' : Heap} (hk : ∀ a ∈ ks, ∃ o, H a = some (CellO o a)) (hf : ∀ b ∈ fs, H b = none) (hok : HOk P w H h) (u : Un fs [] (hidL ks H) H' h h') (hok' : HOk P w H' h') :
    (∀ a ∈ ks, H' a = none) ∧ Sub H' (unh ks H H') ∧ Un fs [] H (unh ks H H') h h' ∧ HOk P w (unh ks H H') h' := by
  have there : ∀ a ∈ ks, ∃ o, H a = some (CellO o a) ∧ h.get? a = some o ∧ h'.get? a = some o := fun a ha => by
    obtain ⟨o, q⟩ := hk a ha
    have := (hok a _ q).1
    exact ⟨o, q, this, u.keep a o this (hidL_in ha) (fun z => by rw [hf a z] at q; cases q) (by simp)⟩
  have gone : ∀ a ∈ ks, H' a = none := fun a ha => by
    obtain ⟨o, _, q, _⟩ := there a ha
    exact u.free a o q (hidL_in ha) (by simp)
  have sub : Sub H' (unh ks H H') := fun a o q => by
    rw [unh_out (fun z => by rw [gone a z] at q; cases q)]; exact q
  have nk : ∀ {b : Addr} {o : HO}, H b = some o → (∀ φ, o ≠ .ext φ) → b ∉ ks := fun {b o} q hn z => by
    obtain ⟨o', q'⟩ := hk b z
    rw [q] at q'; exact hn _ (Option.some.inj q')
  have nk0 : ∀ {b : Addr}, H b = none → b ∉ ks := fun {b} q z => by
    obtain ⟨o', q'⟩ := hk b z
    rw [q] at q'; cases q'
  refine ⟨gone, sub, ⟨fun b o q n hb hx => ?_, fun b o q n hb hx => ?_, fun b o q n hx => ?_, fun b o q hx => u.there b o q hx, fun b xs q => ?_, fun b o x q => ?_, fun b ps q => ?_⟩, fun b o q => ?_⟩
  · exact u.keep b o q (hidL_none n) hb hx
  · exact u.slot b o q (hidL_none n) hb hx
  · rw [unh_out (nk0 n)]; exact u.free b o q (hidL_none n) hx
  · exact sub _ _ (u.tups b xs (by rw [hidL_out (nk q fun φ z => nomatch z)]; exact q))
  · exact sub _ _ (u.frzs b o x (by rw [hidL_out (nk q fun φ z => nomatch z)]; exact q))
  · obtain ⟨more, e⟩ := u.tbls b ps (by rw [hidL_out (nk q fun φ z => nomatch z)]; exact q)
    exact ⟨more, sub _ _ e⟩
  · by_cases hb : b ∈ ks
    · obtain ⟨o', q1, q2, q3⟩ := there b hb
      rw [unh_in hb] at q
      have eo := Option.some.inj (q1.symm.trans q)
      subst eo
      exact ⟨q3, ⟨o', q3⟩, fun h1 h2 e st => st _ e⟩
    · rw [unh_out hb] at q
      exact (hok' b o q).stay (fun d v _ q => q) (fun d q => sub _ _ q) fun d xs q => sub _ _ q
theorem unh_ub {P : Program} {w : World} {ks : List Addr} {fs : List Addr} {H H' : Hp} {h B h' : Heap} (hk : ∀ a ∈ ks, ∃ o, H a = some (CellO o a)) (hf : ∀ b ∈ fs, H b = none) (hok : HOk P w H h) (u : UB fs (hidL ks H) H' h B h') (hok' : HOk P w H' B) :
    (∀ a ∈ ks, H' a = none ∧ ∃ o, B.get? a = some o) ∧ Sub H' (unh ks H H') ∧ UB fs H (unh ks H H') h B h' ∧ HOk P w (unh ks H H') B := by
  have there : ∀ a ∈ ks, ∃ o, H a = some (CellO o a) ∧ h.get? a = some o ∧ B.get? a = some o := fun a ha => by
    obtain ⟨o, q⟩ := hk a ha
    have := (hok a _ q).1
    exact ⟨o, q, this, u.keep a o this (hidL_in ha) (fun z => by rw [hf a z] at q; cases q)⟩
  have gone : ∀ a ∈ ks, H' a = none := fun a ha => by
    obtain ⟨o, _, q, _⟩ := there a ha
    exact u.free a o q (hidL_in ha)
  have sub : Sub H' (unh ks H H') := fun a o q => by
    rw [unh_out (fun z => by rw [gone a z] at q; cases q)]; exact q
  have nk : ∀ {b : Addr} {o : HO}, H b = some o → (∀ φ, o ≠ .ext φ) → b ∉ ks := fun {b o} q hn z => by
    obtain ⟨o', q'⟩ := hk b z
    rw [q] at q'; exact hn _ (Option.some.inj q')
  have nk0 : ∀ {b : Addr}, H b = none → b ∉ ks := fun {b} q z => by
    obtain ⟨o', q'⟩ := hk b z
    rw [q] at q'; cases q'
  refine ⟨fun a ha => ⟨gone a ha, let ⟨o, _, _, q⟩ := there a ha; ⟨o, q⟩⟩, sub, ⟨fun b o q n hb => ?_, fun b o q hb => u.slot b o q hb, fun b o q n => ?_, fun b o q hb => u.there b o q hb, fun b xs q => ?_, fun b o x q => ?_, fun b ps q => ?_⟩, fun b o q => ?_⟩
  · exact u.keep b o q (hidL_none n) hb
  · rw [unh_out (nk0 n)]; exact u.free b o q (hidL_none n)
  · exact sub _ _ (u.tups b xs (by rw [hidL_out (nk q fun φ z => nomatch z)]; exact q))
  · exact sub _ _ (u.frzs b o x (by rw [hidL_out (nk q fun φ z => nomatch z)]; exact q))
  · obtain ⟨more, e⟩ := u.tbls b ps (by rw [hidL_out (nk q fun φ z => nomatch z)]; exact q)
    exact ⟨more, sub _ _ e⟩
  · by_cases hb : b ∈ ks
    · obtain ⟨o', q1, q2, q3⟩ := there b hb
      rw [unh_in hb] at q
      have eo := Option.some.inj (q1.symm.trans q)
      subst eo
      exact ⟨q3, ⟨o', q3⟩, fun h1 h2 e st => st _ e⟩
    · rw [unh_out hb] at q
      exact (hok' b o q).stay (fun d v _ q => q) (fun d q => sub _ _ q) fun d xs q => sub _ _ q
end GW

set_option maxHeartbeats 2000000
namespace GW
open PySem PySem.Spec PyProof.Rows L2
def Rs.finE (r : Rs D) : Rf := match r with
  | .ok d _ μ => .ok d μ
  | .ex x fs _ μ => .ex x fs μ
  | .no => .no
/-- a lambda by its body's function: the arguments, then what is captured -/
def lamF (fe : Ro → Mu → Rs D) (ws ds : List D) (μ : Mu) : Rf := ((fe ((ds ++ ws).map SV.val) μ).bind fun d ρ1 μ1 => datR d ρ1 μ1).finE
/-- what a call of the closure promises -/
structure LamB (P : Program) (w : World) (K : PySem.W.Frag) (mg : Str → Option Value) (base : Heap) (k : Nat) (g : Gd) (n : Nat) (F : List D → List D → Mu → Rf) : Prop where
  run : ∀ (A : Around) (outer : List Env) (s : Shared) (H : Hp) (f : Addr) (ws : List D) (us : List Value) (as : List V) (ds : List D) (Q : VK) (E : XK) (av : Addr → Prop) (er : Er) (μ : Mu), Room k A → Env0 P w K mg base A outer s H → RepV (g.at av) er μ.ec NoOw H (.ref f) (.clo n ws) → HpOk (g.at av) er H μ →
    Vals as us → RepDs (g.at av) er μ.ec H NoOw as ds → DenF (g.at av) E er H μ (F ws ds μ) Q → codeAny (model P w) A (.call (.ref f) ⟨us, []⟩) (CR (L2.CX P w) outer P w H s Q E) s
section
variable {g : Gd} {X : Cx} {W : WX} {σ : St} {er : Er} {H H2 : Hp} {ρ : Ro} {μ : Mu} {c : Nat} {ow ow' : Addr → Prop} {av : Addr → Prop} {bl : List Str} {n : Nat} {N : List Str} {sc : Scope} {α β : Type} {tg iter : Expr}
theorem reps_vals {vs : List V} {ds : List D} (h : RepVs g er c ow H vs ds) : ∀ {i : Nat} {d : D}, ds[i]? = some d → ∃ v, vs[i]? = some v ∧ RepV g er c ow H v d := by
  induction h using RepVs.rec (motive_1 := fun _ _ _ _ => True) with
  | nil => intro i d h; cases h
  | cons h r _ ih =>
    intro i d' e
    cases i with
    | zero => cases e; exact ⟨_, rfl, h⟩
    | succ i => exact ih e
  | _ => trivial
theorem repvs_len {H : Hp} {vs : List V} {ds : List D} (h : RepVs g er c ow H vs ds) : vs.length = ds.length := by
  induction h using RepVs.rec (motive_1 := fun _ _ _ _ => True) with
  | nil => rfl
  | cons h r _ ih => simp [ih]
  | _ => trivial
/-- a frame of values only -/
theorem env_vals {xs : List V} {ds : List D} (hl : xs.length = ds.length) (h : ∀ (i : Nat) (d : D), ds[i]? = some d → ∃ v, xs[i]? = some v ∧ RepV g er c NoOw H v d) : RepEnv g er c H (ds.map SV.val) (xs.map some) := by
  have no : ∀ i, ¬ isOw (ds.map SV.val) i := fun i z => by
    obtain ⟨sv, h1, h2⟩ := isOw_iff.mp z
    rw [List.getElem?_map] at h1
    obtain ⟨d, _, rfl⟩ := Option.map_eq_some_iff.mp h1
    cases h2
  refine ⟨by rw [List.length_map, List.length_map, hl], fun i d e => ?_, fun i e xs q => (no i (.inl ⟨e, xs, q⟩)).elim, fun i e xs q => (no i (.inr ⟨e, xs, q⟩)).elim, fun i j a q => (no i q).elim⟩
  rw [List.getElem?_map] at e
  obtain ⟨d', h1, h2⟩ := Option.map_eq_some_iff.mp e
  cases h2
  obtain ⟨v, h3, h4⟩ := h i d h1
  exact ⟨v, by rw [List.getElem?_map, h3]; rfl, RepV.less (fun a ⟨j, hj, _⟩ => (no j hj).elim) h4⟩
theorem lam_by {P : Program} {w : World} {K : PySem.W.Frag} {mg : Str → Option Value} {base : Heap} {k m : Nat} {L : LamD} {ps : List Str} {fe : Ro → Mu → Rs D} (hL : g.lam m = some L) (S : LamS L ps)
    (hbind : ∀ (cl : List (Str × Addr)) (pm cv ctv : Value) (us : List Value), us.length = ps.length → bindArgs (PySem.W.kla_fn "<lambda>" L.q L.params L.body L.scope cl pm cv ctv) ⟨us, []⟩ = pure (ps.zip us))
    (hb : ∀ (A : Around) (outer : List Env) (s : Shared) (H : Hp) (E : XK) (cl : List (Str × Addr)) (f c' : Addr), Room k (A.deeper (PySem.W.envX L.q L.scope s.heap.objs.size f (.ref c') cl)) → OkE g (lcx P w K mg base L ps A outer s H E cl f c') L.body fe) :
    LamB P w K mg base (k + 1) g m (fun ws ds μ => if ds.length = ps.length then lamF fe ws ds μ else .no) := by
  refine ⟨fun A outer s H f ws us as ds Q E av er μ hr e0 hcl P0 ra rd hq => ?_⟩
  split at hq
  case isFalse => exact hq.elim
  rename_i hlen
  cases hcl with
  | d h => cases h
  | @clo _ _ c' cl _ L' vs _ pm ctv hL' hj hf hc ha hv r =>
  rw [show (g.at av).lam m = g.lam m from rfl, hL] at hL'
  cases hL'
  have hal : as.length = ps.length := by rw [rd.length, hlen]
  have hul : us.length = ps.length := by rw [← ra.length, hal]
  have of1 := (e0.hok f _ hf).1
  obtain ⟨⟨oc, cvs, t, hoc, hdc, hvc⟩, _, _⟩ := e0.hok c' _ hc
  refine PySem.W.kla_callFunE hr.depth of1 rfl S.co S.gen rfl ⟨c', oc, cvs, t, rfl, hoc, hdc, hvc⟩ ?_
  rw [hbind _ _ _ _ us hul]
  have nolim : s.heap.NoLimit := e0.mod.nolimit.keeps fun b o e => (e0.bs b o e).1
  refine wpAny_pure (wpAny_newFunctionEnv S.nocell (fun y hy => S.par _ (List.of_mem_zip hy).1) (fun h₁ hns hsb => ⟨nolim.fresh _ hsb, ?_⟩) S.kind)
  show codeAny _ _ (.expr L.body (PySem.W.envX L.q L.scope s.heap.objs.size f (.ref c') cl)) _ _
  have kp : ∀ b o, s.heap.get? b = some o → h₁.get? b = some o := fun b o e => hsb.extBut b o (Nat.ne_of_lt (Heap.lt_size e)) (Heap.get?_push_of_some _ e)
  let ks := cl.map (·.2)
  have hks : ∀ a ∈ ks, ∃ o, H a = some (CellO o a) := fun a h => by
    obtain ⟨p, hp, e⟩ := List.mem_map.mp h
    obtain ⟨o, q, _⟩ := ha p hp
    exact ⟨o, by rw [← e]; exact q⟩
  have xk : Exts ks H := cells_exts ha
  have hcd : ∀ a ∈ ks, ∀ q, H a ≠ some (LamX.CodeO a q) := fun a h q z => by
    obtain ⟨p, hp, e⟩ := List.mem_map.mp h
    obtain ⟨o, q1, v, hd⟩ := ha p hp
    have h1 := (e0.hok _ _ q1).1
    obtain ⟨⟨oc, vs, t, q2, q3, _⟩, _⟩ := e0.hok a _ z
    have h1 : s.heap.get? p.2 = some o := h1
    rw [e] at h1
    rw [h1] at q2; cases q2
    rw [hd] at q3; cases q3
  -- eras and callers' objects without the cells
  let er1 : Er := fun e a => er e a ∧ a ∉ ks
  let av1 : Addr → Prop := fun a => av a ∧ a ∉ ks
  have P1 : HpOk (g.at av1) er1 (hidL ks H) μ := HpOk.hide (g := g.at av) xk hcd (fun a z => ⟨z.2, z.1⟩) (fun a z => ⟨z.2, z.1⟩) P0
  have erq : ∀ e a, hidL ks H a ≠ none → (er e a ↔ er1 e a) := fun e a z => ⟨fun q => ⟨q, (mem_hidL z).1⟩, fun q => q.1⟩
  have frq : ∀ {H' : Hp} (a : Addr), H' a ≠ none → Free (g.at av) NoOw a → Free ((g.at av).at av1) NoOw a := fun {H'} a _ f => ⟨fun z => f.1 z.1, f.2⟩
  have E1 : RepEnv (g.at av1) er1 μ.ec (hidL ks H) ((ds ++ ws).map SV.val) ((as ++ vs).map some) := by
    refine env_vals (by rw [List.length_append, List.length_append, rd.length, repvs_len r]) fun i d e => ?_
    rw [List.getElem?_append] at e
    rw [List.getElem?_append, rd.length]
    split at e
    · rename_i hi
      rw [if_pos hi]
      obtain ⟨v, h1, h2⟩ := rd.get e
      exact ⟨v, h1, .d (RepD.cv (g := g.at av) (av' := av1) frq (RepD.erx erq (RepD.hide xk h2)))⟩
    · rename_i hi
      rw [if_neg hi]
      obtain ⟨v, h1, h2⟩ := reps_vals r e
      exact ⟨v, h1, RepV.cv (g := g.at av) (av' := av1) frq (RepV.erx erq h2)⟩
  let E' : XK := fun cls d H' => (∀ a ∈ ks, H' a = none) → E cls d (unh ks H H')
  have J : Inv (lcx P w K mg base L ps A outer s (hidL ks H) E' cl f c') [] ((as ++ vs).map some) (hidL ks H) { s with heap := h₁, toks := s.toks + (ps.zip us).length } := by
    rw [List.map_append]
    exact inv_lam S hj ha hv e0 hr.hd ra hal hns kp
  have tk : Takes (lcx P w K mg base L ps A outer s (hidL ks H) E' cl f c') (fun cls d _ H => E' cls d H) := takes_of rfl rfl rfl rfl
  have no : ∀ {ρ' : Ro} {H' : Hp} {er' : Er} {μ' : Mu}, Nx (g.at av1) ((as ++ vs).map some) er1 (hidL ks H) ((ds ++ ws).map SV.val) μ er' H' ρ' μ' → Ext (g.at av1) NoOw er1 μ.ec (hidL ks H) er' μ'.ec H' := fun n => n.x.mono fun a ⟨j, hj, _⟩ => by
    obtain ⟨sv, h1, h2⟩ := isOw_iff.mp hj
    rw [List.getElem?_map] at h1
    obtain ⟨d, _, rfl⟩ := Option.map_eq_some_iff.mp h1
    cases h2
  -- how all ends, the cells there again
  let er2 : Er → Er := fun er' e a => if e ≤ μ.ec then er e a else er' e a ∨ a ∈ ks
  have endX : ∀ {er' : Er} {c1 : Nat} {H' : Hp}, Ext (g.at av1) NoOw er1 μ.ec (hidL ks H) er' c1 H' → (∀ a ∈ ks, H' a = none) → Sub H' (unh ks H H') → Ext (g.at av) NoOw er μ.ec H (er2 er') c1 (unh ks H H') := fun {er' c1 H'} x gone sub =>
    ⟨fun a o h n1 n2 n3 t => by
      by_cases hb : a ∈ ks
      · rw [unh_in hb]; exact h
      · exact sub _ _ (x.same a o (by rw [hidL_out hb]; exact h) n1 n2 n3 t), fun a h => by
      by_cases hb : a ∈ ks
      · rw [unh_in hb]; exact h
      · rw [unh_out hb]; exact x.dom a (by rw [hidL_out hb]; exact h), fun e he => by funext a; exact if_pos he, x.cc, fun a e h h1 h2 => by
      show if e ≤ μ.ec then er e a else er' e a ∨ a ∈ ks
      rw [if_neg (by omega)]
      by_cases hb : a ∈ ks
      · exact .inr hb
      · exact .inl (x.new a e (by rw [hidL_out hb]; exact h) h1 h2), fun a o u h => by
      by_cases hb : a ∈ ks
      · rw [unh_in hb] at h; exact h
      · rw [unh_out hb] at h
        have q := x.nfz a o u h
        rw [hidL_out hb] at q; exact q⟩
  have endE : ∀ {er' : Er} {c1 : Nat} {H' : Hp}, Ext (g.at av1) NoOw er1 μ.ec (hidL ks H) er' c1 H' → (∀ a ∈ ks, H' a = none) → ∀ e a, H' a ≠ none → (er' e a ↔ er2 er' e a) := fun {er' c1 H'} x gone e a z => by
    have hb : a ∉ ks := fun q => z (gone a q)
    show er' e a ↔ if e ≤ μ.ec then er e a else er' e a ∨ a ∈ ks
    split
    · rename_i he
      rw [x.ere e he]
      exact ⟨fun q => q.1, fun q => ⟨q, hb⟩⟩
    · exact ⟨.inl, fun q => q.elim id fun q => absurd q hb⟩
  have endF : ∀ {H' : Hp}, (∀ a ∈ ks, H' a = none) → ∀ a, H' a ≠ none → Free (g.at av1) NoOw a → Free ((g.at av1).at av) NoOw a := fun {H'} gone a z f => ⟨fun q => f.1 ⟨q, fun q => z (gone a q)⟩, f.2⟩
  have endP : ∀ {er' : Er} {H' : Hp} {μ' : Mu}, Ext (g.at av1) NoOw er1 μ.ec (hidL ks H) er' μ'.ec H' → (∀ a ∈ ks, H' a = none) → Sub H' (unh ks H H') → HpOk (g.at av1) er' H' μ' → HpOk (g.at av) (er2 er') (unh ks H H') μ' := fun {er' H' μ'} x gone sub p =>
    { sa := sub _ _ p.sa, sb := sub _ _ p.sb, ne := p.ne, mu := p.mu, tabs := p.tabs.ext sub, nav := P0.nav
      er := fun a z => by
        by_cases hb : a ∈ ks
        · obtain ⟨o, q⟩ := hks a hb
          rw [unh_in hb, q]; exact fun z => nomatch z
        · rw [unh_out hb]
          have z : if μ'.ec ≤ μ.ec then er μ'.ec a else er' μ'.ec a ∨ a ∈ ks := z
          split at z
          · rename_i he
            have e0' : μ'.ec = μ.ec := Nat.le_antisymm he x.cc
            rw [e0'] at z
            exact x.dom a (by rw [hidL_out hb]; exact P0.er a z)
          · exact p.er a (z.elim id fun q => absurd q hb)
      av := fun a z => by
        by_cases hb : a ∈ ks
        · rw [unh_in hb]; exact P0.av a z
        · rw [unh_out hb]; exact p.av a ⟨z, hb⟩ }
  have hfr : ∀ b ∈ frs outer, H b = none := e0.frf
  have subOf : ∀ {H' : Hp}, (∀ a ∈ ks, H' a = none) → Sub H' (unh ks H H') := fun {H'} gone a o q => by
    rw [unh_out (fun z => by rw [gone a z] at q; cases q)]; exact q
  have den : DenG (g.at av1) (fun cls d _ H => E' cls d H) ((as ++ vs).map some) er1 (hidL ks H) ((ds ++ ws).map SV.val) μ (fe ((ds ++ ws).map SV.val) μ) (KE (g.at av1) ((as ++ vs).map some) fun v H' => (∀ a ∈ ks, H' a = none) → Q v (unh ks H H')) := by
    have hq : DenF (g.at av) E er H μ (lamF fe ws ds μ) Q := hq
    unfold lamF at hq
    cases e1 : fe ((ds ++ ws).map SV.val) μ with
    | no => rw [e1] at hq; exact hq
    | ex x fs ρ1 μ1 =>
      rw [e1] at hq
      intro cls dd H' er' m q gone
      refine hq cls dd _ (er2 er') (endX (no m) gone (subOf gone)) (endP (no m) gone (subOf gone) m.hp) ?_
      obtain ⟨C, fvs, q1, q2, q3, q4⟩ := q
      refine ⟨C, fvs, q1, q2, subOf gone _ _ q3, RepFs.up (subOf gone) (RepFs.erx (endE (no m) gone) (RepFs.cv (g := g.at av1) (av' := av) (ow := NoOw) (endF gone) (RepFs.less (fun a z => z.elim) q4)))⟩
    | ok d ρ1 μ1 =>
      rw [e1] at hq
      simp only [Rs.bind_ok] at hq
      intro H' er' m v q gone
      unfold datR at hq
      cases e2 : fz d ρ1 with
      | none => rw [e2] at hq; exact hq.elim
      | some p =>
        obtain ⟨d', ρ2⟩ := p
        rw [e2] at hq
        obtain ⟨m2, r2⟩ := fz_ok m.env m.hp q e2
        exact hq v _ (er2 er') (endX (no m) gone (subOf gone)) (endP (no m) gone (subOf gone) m.hp) (RepD.up (subOf gone) (RepD.erx (endE (no m) gone) (RepD.cv (g := g.at av1) (av' := av) (ow := NoOw) (endF gone) (RepD.less (fun a z => z.elim) r2))))
  have run := hb A outer s (hidL ks H) E' cl f c' (hr.deeper _) av1 (fun cls d _ H => E' cls d H) ((as ++ vs).map some) er1 (hidL ks H) ((ds ++ ws).map SV.val) μ _ tk E1 P1 den.e
  refine PySem.W.kla_codeExpr (wpAny_mono (run [] _ J) (fun v' s' hz => ?_) fun e s' hz => ?_)
  · obtain ⟨v, H', J', rv, q⟩ := hz
    have Ub : Un (frs outer) [] (hidL ks H) H' s.heap s'.heap := J'.base
    obtain ⟨gone, sub, U2, ok2⟩ := unh_un hks hfr e0.hok Ub J'.hok
    exact ⟨v, unh ks H H', J'.os, J'.bare, U2, ok2, rv, q gone⟩
  · refine wpAny_mono hz (fun _ s'' hx => ?_) fun e' s'' hx => ?_
    all_goals
      obtain ⟨a, B, H', cls, d, ea, fl, hokB, ub, na, os, ag, eE⟩ := hx
      obtain ⟨gB, sub, ub2, ok2⟩ := unh_ub hks hfr e0.hok ub hokB
      refine ⟨a, B, unh ks H H', cls, d, ea, fl, ok2, ub2, ?_, os, ag, eE fun a ha => (gB a ha).1⟩
      rw [unh_out]
      · exact na
      · intro z
        obtain ⟨o, q⟩ := (gB a z).2
        rw [fl.2.1] at q; cases q
end
end GW

set_option maxHeartbeats 2000000
namespace GW
open PySem PySem.Spec PyProof.Rows L2
section
variable {g : Gd} {X : Cx} {W : WX} {σ : St} {er : Er} {H H2 : Hp} {ρ : Ro} {μ : Mu} {c : Nat} {ow ow' : Addr → Prop} {av : Addr → Prop} {bl : List Str} {n : Nat} {N : List Str} {sc : Scope} {α β : Type} {tg iter : Expr}
def endF (ρ : Ro) (r : Rf) : Rs D := match r with
  | .ok d μ' => .ok d ρ μ'
  | .ex x fs μ' => .ex x fs ρ μ'
  | .no => .no
/-- an end of a call that was given nothing of the frame's own -/
theorem denF_end {r : Rf} {Q : VK} (E : RepEnv (g.at av) er μ.ec H ρ σ) (P : HpOk (g.at av) er H μ) (h : DenG (g.at av) W σ er H ρ μ (endF ρ r) (KE (g.at av) σ Q)) : DenF (g.at (avC av ρ σ [])) (WE W σ) er H μ r Q := by
  cases r with
  | no => exact h
  | ex x fs μ' => exact fun cls dd H' er' x1 P1 q => h cls dd H' er' (nx_call E P x1 P1) (ExRep.cv (g := g.at (avC av ρ σ [])) (av' := av) (free_give (ds := [])) q)
  | ok d μ' => exact fun v H' er' x1 P1 q => h H' er' (nx_call E P x1 P1) v (.d (RepD.cv (g := g.at (avC av ρ σ [])) (av' := av) (free_give (ds := [])) q))
theorem free_C {ds : List D} (b : Addr) (_ : H b ≠ none) (f : Free (g.at av) (Ow ρ σ) b) : Free ((g.at av).at (avC av ρ σ ds)) NoOw b := ⟨avC_ow (g := g) f.1 f.2.1, fun z => z, f.2.2⟩
def evAct (i : Nat) (Lf : Nat → List D → List D → Mu → Rf) (fa : Ro → Mu → Rs (List D)) : Ro → Mu → Rs D := fun ρ μ => match ρ[i]? with
  | some (.val (.clo n ws)) => (fa ρ μ).bind fun ds ρ1 μ1 => (datsR ds ρ1 μ1).bind fun ds ρ2 μ2 => endF ρ2 (Lf n ws ds μ2)
  | _ => .no
theorem act_core {k m : Nat} {f : Addr} {F : List D → List D → Mu → Rf} {ws ds : List D} {vs : List V} {us : List Value} {pins : List (Addr × Obj)} {s : Shared} {Q : VK} (L : LamB X.prog X.w X.K X.mg X.base k g m F) (hr : Room k X.A) (tk : Takes X W) (I : Inv X pins σ H s) (E : RepEnv (g.at av) er μ.ec H ρ σ) (P : HpOk (g.at av) er H μ)
    (hc : RepV (g.at av) er μ.ec (Ow ρ σ) H (.ref f) (.clo m ws)) (ru : Vals vs us) (rd : RepDs (g.at av) er μ.ec H (Ow ρ σ) vs ds) (h : DenG (g.at av) W σ er H ρ μ (endF ρ (F ws ds μ)) (KE (g.at av) σ Q)) : wpAny (model X.prog X.w) X.A (call (.ref f) us) (EP X pins σ Q) X.xe s := by
  have rc := L.run X.A X.stack s H f ws us vs ds Q (WE W σ) (avC av ρ σ []) er μ hr I.env0 (RepV.cv (g := g.at av) (av' := avC av ρ σ []) free_C hc) (avC_hp E P) ru (RepDs.cv (g := g.at av) (av' := avC av ρ σ []) free_C rd) (denF_end E P h)
  refine wpAny_call (codeAny_mono rc fun r s' hq => ?_)
  cases r with
  | error e => exact passAt tk σ pins H s e s' I hq
  | ok fl =>
    cases fl with
    | ret u => exact I.after hq
    | next => exact False.elim hq
    | brk => exact False.elim hq
    | cont => exact False.elim hq
theorem clo_obj {f : Addr} {m : Nat} {ws : List D} {pins : List (Addr × Obj)} {s : Shared} (I : Inv X pins σ H s) (hc : RepV g er c ow H (.ref f) (.clo m ws)) : PySem.W.FnAt f s.heap := by
  cases hc with
  | d h => cases h
  | clo hL hj hf hc ha hv r => exact ⟨_, _, _, _, (I.hok f _ hf).1⟩
theorem clo_ref {v : V} {m : Nat} {ws : List D} (hc : RepV g er c ow H v (.clo m ws)) : ∃ f, v = .ref f := by
  cases hc with
  | d h => cases h
  | clo hL hj hf hc ha hv r => exact ⟨_, rfl⟩
theorem OkE.act {k i : Nat} {x : Str} {Lf : Nat → List D → List D → Mu → Rf} {e : Expr} {es : List Expr} {fa : Ro → Mu → Rs (List D)} {p pos : Pos} (C : Cxt g bl n N sc X) (HL : ∀ m, LamB X.prog X.w X.K X.mg X.base k g m (Lf m)) (hk : k ≤ n) (hi : N[i]? = some x) (hv : Vis sc x) (hd : (x == ("__debug__" : Str)) = false) (hcd : (x == ("__classdict__" : Str)) = false) (Oa : OkA g X (e :: es) fa)
    (he : starEach (e :: es) X.env = (false, eval e X.env) :: starEach es X.env := by rfl) (hpl : (backTo pos (starEach es X.env)).any (·.1) = false := by rfl) : OkE g X (.Call (.Name x p) (e :: es) [] pos) (evAct i Lf fa) := by
  intro av W σ er H ρ μ Q tk E P h pins s I
  unfold evAct at h
  cases q : ρ[i]? with
  | none => simp only [q] at h; exact h.elim
  | some sv =>
  cases sv with
  | val d0 =>
    cases d0 with
    | clo m ws =>
      simp only [q] at h
      obtain ⟨v, h1, h2⟩ := E.val i _ q
      obtain ⟨f, rfl⟩ := clo_ref h2
      refine wpAny_Call_Name_kw (thn ((pe_var (pos := p) (i := i) (C.at hi) (by rw [C.hsc]; exact hv) hd hcd).run pins s σ H (fun v H1 => v = .ref f ∧ H1 = H) I ⟨.ref f, h1, rfl, rfl⟩) fun u s1 ⟨v, H1, I1, r1, q1⟩ => ?_)
      obtain ⟨ev, eH⟩ := q1
      subst ev
      rw [eH] at I1
      obtain rfl : u = Value.ref f := r1
      have run := Oa av W σ er H ρ μ (fun vs H2 => ∀ (s2 : Shared) (us : List Value), L2.Inv X pins σ H2 s2 → Vals vs us → PySem.W.FnAt f s2.heap ∧ wpAny (model X.prog X.w) X.A (PySem.call (.ref f) us) (EP X pins σ Q) X.xe s2) tk E P
        (DenG.a (h.toG.bind fun ds ρ1 μ1 H2 er1 _ n1 g1 vs rv s2 us I2 ru => by
          obtain ⟨ds', ρ2, E2, r2, g2⟩ := g1.dats n1.env n1.hp rv
          unfold datsR at g1
          cases ez : fzs ds ρ1 with
          | none => rw [ez] at g1; exact g1.elim
          | some pz =>
            obtain ⟨dz, ρz⟩ := pz
            rw [ez] at g1
            obtain ⟨nz, rz⟩ := fzs_ok n1.env n1.hp rv ez
            have n2 := n1.trans nz
            have c2 := RepV.ext n2.x E.owl P.sal n2.ow h2
            exact ⟨clo_obj I2 c2, act_core (HL m) (C.room.mono hk) tk I2 n2.env n2.hp c2 ru rz (DenG.nx nz g1)⟩))
      exact PySem.W.callWith_F (clo_obj I1 h2) (thn (run pos pins s1 I1) fun us s2 ⟨vs, H2, I2, ru, q2⟩ => q2 s2 us I2 ru) he hpl
    | _ => simp only [q] at h; exact h.elim
  | _ => simp only [q] at h; exact h.elim
def evAct0 (i : Nat) (Lf : Nat → List D → List D → Mu → Rf) : Ro → Mu → Rs D := fun ρ μ => match ρ[i]? with
  | some (.val (.clo n ws)) => endF ρ (Lf n ws [] μ)
  | _ => .no
theorem OkE.act0 {k i : Nat} {x : Str} {Lf : Nat → List D → List D → Mu → Rf} {p pos : Pos} (C : Cxt g bl n N sc X) (HL : ∀ m, LamB X.prog X.w X.K X.mg X.base k g m (Lf m)) (hk : k ≤ n) (hi : N[i]? = some x) (hv : Vis sc x) (hd : (x == ("__debug__" : Str)) = false) (hcd : (x == ("__classdict__" : Str)) = false) : OkE g X (.Call (.Name x p) [] [] pos) (evAct0 i Lf) := by
  intro av W σ er H ρ μ Q tk E P h pins s I
  unfold evAct0 at h
  cases q : ρ[i]? with
  | none => simp only [q] at h; exact h.elim
  | some sv =>
  cases sv with
  | val d0 =>
    cases d0 with
    | clo m ws =>
      simp only [q] at h
      obtain ⟨v, h1, h2⟩ := E.val i _ q
      obtain ⟨f, rfl⟩ := clo_ref h2
      refine wpAny_Call_Name_kw (thn ((pe_var (pos := p) (i := i) (C.at hi) (by rw [C.hsc]; exact hv) hd hcd).run pins s σ H (fun v H1 => v = .ref f ∧ H1 = H) I ⟨.ref f, h1, rfl, rfl⟩) fun u s1 ⟨v, H1, I1, r1, q1⟩ => ?_)
      obtain ⟨ev, eH⟩ := q1
      subst ev
      rw [eH] at I1
      obtain rfl : u = Value.ref f := r1
      exact PySem.W.callWith_F0 (clo_obj I1 h2) (act_core (us := []) (HL m) (C.room.mono hk) tk I1 E P h2 .nil .nil h.toG)
    | _ => simp only [q] at h; exact h.elim
  | _ => simp only [q] at h; exact h.elim
end
end GW

set_option maxHeartbeats 2000000
namespace GW
open PySem PySem.Spec PyProof.Rows L2
section
variable {g : Gd} {X : Cx} {W : WX} {σ : St} {er : Er} {H H2 : Hp} {ρ : Ro} {μ : Mu} {c : Nat} {ow ow' : Addr → Prop} {av : Addr → Prop} {bl : List Str} {n : Nat} {N : List Str} {sc : Scope} {α β : Type} {tg iter : Expr}
/-- HandS.Lambda's lam_make2, turned so that it also tells that nothing goes -/
theorem lam_make3 {T : List (Addr × Str)} {c P : Addr} {params : Arguments} {body : Expr} {scope : Scope} {pos : Pos} {E : Value → Shared → Prop} {Q : Value → Shared → Prop} {pins : List (Addr × Obj)} {s : Shared} (I : Inv X pins σ H s) (TB : LamX.TabB X.base X.mg c P) (hcode : X.env.code = .ref c)
    (hm : (P, X.env.qual ++ "<lambda>") ∈ T) (hu : ∀ p ∈ T, p.1 = P → p.2 = X.env.qual ++ "<lambda>") (hT : LamX.Tabs T H) (hdef : defaultsOf params X.env = ([], [])) (hfree : ∀ y ∈ scope.names, y.2 = .free → ∃ c, X.env.cells.lookup y.1 = some c)
    (h : ∀ (f c' : Addr) (pm ctv : Value) (H1 : Hp) (s' : Shared), Inv X pins σ H1 s' → LamX.ExtN H H1 → (∀ a, H a ≠ none → H1 a ≠ none) → (∀ a o u, H1 a = some (.frz o u) → H a = some (.frz o u)) → LamX.Tabs T H1 →
      s'.heap.get? f = some (PySem.W.kla_obj "<lambda>" (X.env.qual ++ "<lambda>") params body scope (cloFrom X.env.cells scope.names []) pm c' ctv) → H1 f = none → f ∉ frs X.stack → s.heap.objs.size ≤ f → H1 c' = some (LamX.CodeO c' (X.env.qual ++ "<lambda>")) → Q (.ref f) s') :
    wpAny (model X.prog X.w) X.A (eval (.Lambda params body scope pos) X.env) Q E s := by
  obtain ⟨ps, hP, ht, ha⟩ := hT _ hm
  refine PySem.W.kla_eval hdef ?_
  have bP : s.heap.BuiltinsAt X.mg P := TB.bm.keeps I.bk
  have hP' : s.heap.get? P = some { cls := .none, data := .fields ps } := I.hok P _ hP
  have nofr : ∀ f, s.heap.objs.size ≤ f → f ∉ frs X.stack := fun f hf z => by
    rcases List.mem_cons.mp (I.stkSub _ z) with e | e
    · have h1 := I.lt
      rw [← e] at h1
      exact Nat.lt_irrefl _ (Nat.lt_of_lt_of_le h1 hf)
    · exact I.nofs hf e
  cases hc : codeAmong pos ps.toList with
  | none =>
    refine PySem.W.kla_makeFunction (mg := X.mg) (c := c) (P := P) (ps := ps) (closure_ok hfree) I.ok.glob (I.mod.glob.keeps I.bk) hcode (TB.code.keeps I.bk) hP' ht hc TB.gP bP fun c' ctv h' tk hx hge hlt hrec htb => ?_
    obtain ⟨c2, oc, vs, t, e2, hoc, hd, hv⟩ := hrec
    cases e2
    have hsz : s.heap.objs.size ≤ h'.objs.size := Nat.le_trans hge (Nat.le_of_lt hlt)
    have nC : H c' = none := I.hok.fresh hge
    have I1 := LamX.inv_table (t' := tk) (more := #[rawInt pos.line, rawInt pos.col, .ref c']) (h' := h'.push (PySem.W.kla_obj "<lambda>" (X.env.qual ++ "<lambda>") params body scope (cloFrom X.env.cells scope.names []) ((X.mg "__name__").getD .none) c' ctv)) I hP
      (fun b o hb e => Heap.get?_push_of_some _ (hx b o hb e)) (Heap.get?_push_of_some _ htb) hge ⟨oc, vs, t, Heap.get?_push_of_some _ hoc, hd, hv⟩
    have hE : LamX.ExtN H (upd (upd H P (.tbl (ps ++ #[rawInt pos.line, rawInt pos.col, .ref c']))) c' (LamX.CodeO c' (X.env.qual ++ "<lambda>"))) := fun b o e n => by
      rw [upd_ne (ne_of_none e nC), upd_ne (fun z => n ps (Option.some.inj (e.symm.trans (by rw [z]; exact hP))))]
      exact e
    have eL : (ps ++ #[rawInt pos.line, rawInt pos.col, .ref c']).toList = ps.toList ++ [rawInt pos.line, rawInt pos.col, .ref c'] := by simp
    refine h h'.objs.size c' ((X.mg "__name__").getD .none) ctv _ _ I1 hE (fun a z => upd_some a (upd_some a z)) (fun a o u z => by
      by_cases e1 : a = c'
      · rw [e1, upd_same] at z; unfold LamX.CodeO at z; cases z
      · rw [upd_ne e1] at z
        by_cases e2 : a = P
        · rw [e2, upd_same] at z; cases z
        · rw [upd_ne e2] at z; exact z) (fun p hp => ?_) (Heap.get?_push_size _ rfl) ?_ (nofr _ hsz) hsz upd_same
    · by_cases hb : p.1 = P
      · rw [hu p hp hb, hb]
        refine ⟨_, by rw [upd_ne (ne_of_none hP nC), upd_same], by rw [eL]; exact PySem.TriplesOk_snoc _ _ _ _ ht, fun p' cv hcv => ?_⟩
        rw [eL] at hcv
        rcases LamX.among_app _ ht hcv with z | z
        · obtain ⟨c0, e1, e2⟩ := ha p' cv z
          exact ⟨c0, e1, hE _ _ e2 LamX.codeO_ne⟩
        · exact ⟨c', z, upd_same⟩
      · obtain ⟨ps', a1, a2, a3⟩ := hT p hp
        refine ⟨ps', by rw [upd_ne (ne_of_none a1 nC), upd_ne hb]; exact a1, a2, fun p' cv hcv => ?_⟩
        obtain ⟨c0, e1, e2⟩ := a3 p' cv hcv
        exact ⟨c0, e1, hE _ _ e2 LamX.codeO_ne⟩
    · have n1 : h'.objs.size ≠ c' := Nat.ne_of_gt hlt
      have n2 : h'.objs.size ≠ P := Nat.ne_of_gt (Nat.lt_of_lt_of_le (Heap.lt_size hP') hsz)
      rw [upd_ne n1, upd_ne n2]
      exact I.hok.fresh hsz
  | some cv =>
    obtain ⟨c', e, hco⟩ := ha pos cv hc
    subst e
    refine PySem.W.kla_makeFunctionHit (mg := X.mg) (c := c) (P := P) (ps := ps) (closure_ok hfree) I.ok.glob (I.mod.glob.keeps I.bk) hcode (TB.code.keeps I.bk) hP' ht hc bP fun ctv h' tk hx hsz => ?_
    have I1 : Inv X pins σ H { s with heap := h'.push (PySem.W.kla_obj "<lambda>" (X.env.qual ++ "<lambda>") params body scope (cloFrom X.env.cells scope.names []) ((X.mg "__name__").getD .none) c' ctv), toks := tk } := I.kept fun b o e => Heap.get?_push_of_some _ (hx b o e)
    exact h h'.objs.size c' ((X.mg "__name__").getD .none) ctv H _ I1 (LamX.ExtN.refl H) (fun a z => z) (fun _ _ _ z => z) hT (Heap.get?_push_size _ rfl) (I.hok.fresh hsz) (nofr _ hsz) hsz hco
theorem nx_lam {H1 : Hp} (E : RepEnv g er μ.ec H ρ σ) (P : HpOk g er H μ) (x : LamX.ExtN H H1) (dom : ∀ a, H a ≠ none → H1 a ≠ none) (nfz : ∀ a o u, H1 a = some (.frz o u) → H a = some (.frz o u)) (T : LamX.Tabs g.T H1) : Nx g σ er H ρ μ er H1 ρ μ := by
  have sm : Sm H H1 := fun a o h t => x a o h fun ps z => by rw [z] at t; cases t
  have xx : Ext g (Ow ρ σ) er μ.ec H er μ.ec H1 := ⟨fun a o h _ _ _ t => sm a o h t, dom, fun _ _ => rfl, Nat.le_refl _, fun _ _ _ h1 h2 => absurd (Nat.lt_of_lt_of_le h1 h2) (Nat.lt_irrefl _), nfz⟩
  exact ⟨xx, E.sm P.sal xx sm, ⟨sm _ _ P.sa rfl, sm _ _ P.sb rfl, P.ne, P.mu, fun a h => dom a (P.er a h), T, fun a h => dom a (P.av a h), P.nav⟩, fun a h => .inl h⟩
end
end GW

set_option maxHeartbeats 2000000
namespace GW
open PySem PySem.Spec PyProof.Rows L2
section
variable {g : Gd} {X : Cx} {W : WX} {σ : St} {er : Er} {H H2 : Hp} {ρ : Ro} {μ : Mu} {c : Nat} {ow ow' : Addr → Prop} {av : Addr → Prop} {bl : List Str} {n : Nat} {N : List Str} {sc : Scope} {α β : Type} {tg iter : Expr}
/-- a heap with things tracked beside it, and back -/
structure Beside (ks : List Addr) (H Hp' : Hp) : Prop where
  out : ∀ a ∈ ks, H a = none
  in_ : ∀ a ∈ ks, ∃ φ, Hp' a = some (.ext φ) ∧ NoEx a φ
  same : ∀ a, a ∉ ks → Hp' a = H a
theorem Beside.sub {ks : List Addr} {Hq : Hp} (b : Beside ks H Hq) : Sub H Hq := fun a o h => by
  rw [b.same a fun z => by rw [b.out a z] at h; cases h]; exact h
theorem Beside.exts {ks : List Addr} {Hq : Hp} (b : Beside ks H Hq) : Exts ks Hq := b.in_
theorem stay_hid {P : Program} {w : World} {ks : List Addr} {H' : Hp} {h : Heap} (x : Exts ks H') (hok : HOk P w H' h) : HOk P w (hidL ks H') h := fun b o q => by
  obtain ⟨hb, q⟩ := hidL_some q
  exact (hok b o q).stay (fun d v _ q => q) (fun d q => (x.out q fun φ z => nomatch z).2) fun d xs q => (x.out q fun φ z => nomatch z).2
/-- behind a call under the tracked heap -/
theorem back_un {P : Program} {w : World} {ks fs : List Addr} {Hq H' : Hp} {h h' : Heap} (b : Beside ks H Hq) (hf : ∀ a ∈ fs, a ∉ ks) (hx : ∀ a ∈ ks, ∀ o, h.get? a = some o → Hq a = H' a → h'.get? a = some o) (hq : ∀ a ∈ ks, H' a = Hq a) (u : Un fs [] Hq H' h h') (hok : HOk P w H' h') :
    Un fs [] H (hidL ks H') h h' ∧ HOk P w (hidL ks H') h' := by
  have xs' : Exts ks H' := fun a ha => by obtain ⟨φ, q, z⟩ := b.in_ a ha; exact ⟨φ, by rw [hq a ha]; exact q, z⟩
  have nk : ∀ {a : Addr} {o : HO}, H a = some o → a ∉ ks := fun {a o} q z => by rw [b.out a z] at q; cases q
  refine ⟨⟨fun a o q na ha hx' => ?_, fun a o q na ha hx' => ?_, fun a o q na hx' => ?_, fun a o q hx' => u.there a o q hx', fun a xs q => ?_, fun a o x q => ?_, fun a ps q => ?_⟩, stay_hid xs' hok⟩
  · by_cases hk : a ∈ ks
    · exact hx a hk o q (hq a hk).symm
    · exact u.keep a o q (by rw [b.same a hk]; exact na) ha hx'
  · exact u.slot a o q (by rw [b.same a (hf a ha)]; exact na) ha hx'
  · by_cases hk : a ∈ ks
    · exact hidL_in hk
    · rw [hidL_out hk]; exact u.free a o q (by rw [b.same a hk]; exact na) hx'
  · rw [hidL_out (nk q)]; exact u.tups a xs (b.sub _ _ q)
  · rw [hidL_out (nk q)]; exact u.frzs a o x (b.sub _ _ q)
  · obtain ⟨more, e⟩ := u.tbls a ps (b.sub _ _ q)
    exact ⟨more, by rw [hidL_out (nk q)]; exact e⟩
theorem back_ub {P : Program} {w : World} {ks fs : List Addr} {Hq H' : Hp} {h B h' : Heap} (b : Beside ks H Hq) (hf : ∀ a ∈ fs, a ∉ ks) (hx : ∀ a ∈ ks, ∀ o, h.get? a = some o → Hq a = H' a → B.get? a = some o) (hq : ∀ a ∈ ks, H' a = Hq a) (u : UB fs Hq H' h B h') (hok : HOk P w H' B) :
    UB fs H (hidL ks H') h B h' ∧ HOk P w (hidL ks H') B := by
  have xs' : Exts ks H' := fun a ha => by obtain ⟨φ, q, z⟩ := b.in_ a ha; exact ⟨φ, by rw [hq a ha]; exact q, z⟩
  have nk : ∀ {a : Addr} {o : HO}, H a = some o → a ∉ ks := fun {a o} q z => by rw [b.out a z] at q; cases q
  refine ⟨⟨fun a o q na ha => ?_, fun a o q ha => u.slot a o q ha, fun a o q na => ?_, fun a o q hx' => u.there a o q hx', fun a xs q => ?_, fun a o x q => ?_, fun a ps q => ?_⟩, stay_hid xs' hok⟩
  · by_cases hk : a ∈ ks
    · exact hx a hk o q (hq a hk).symm
    · exact u.keep a o q (by rw [b.same a hk]; exact na) ha
  · by_cases hk : a ∈ ks
    · exact hidL_in hk
    · rw [hidL_out hk]; exact u.free a o q (by rw [b.same a hk]; exact na)
  · rw [hidL_out (nk q)]; exact u.tups a xs (b.sub _ _ q)
  · rw [hidL_out (nk q)]; exact u.frzs a o x (b.sub _ _ q)
  · obtain ⟨more, e⟩ := u.tbls a ps (b.sub _ _ q)
    exact ⟨more, by rw [hidL_out (nk q)]; exact e⟩
/-- an end under the tracked heap, from an end under the heap at hand -/
theorem denF_back {ks : List Addr} {Hq : Hp} {r : Rf} {E : XK} {Q : VK} (b : Beside ks H Hq) (hn : ∀ a ∈ ks, ∀ q, Hq a ≠ some (LamX.CodeO a q)) (P : HpOk g er H μ) (h : DenF g E er H μ r Q) :
    DenF g (fun cls dd H' => (∀ a ∈ ks, H' a = Hq a) ∧ E cls dd (hidL ks H')) er Hq μ r (fun v H' => (∀ a ∈ ks, H' a = Hq a) ∧ Q v (hidL ks H')) := by
  have key : ∀ {er' : Er} {c' : Nat} {H' : Hp}, Ext g NoOw er μ.ec Hq er' c' H' → (∀ a ∈ ks, H' a = Hq a) ∧ Exts ks H' ∧ Ext g NoOw er μ.ec H (fun e a => if e ≤ μ.ec then er e a else er' e a ∧ a ∉ ks) c' (hidL ks H') := fun {er' c' H'} x => by
    have sk : ∀ a ∈ ks, a ≠ g.sa ∧ a ≠ g.sb := fun a ha => ⟨(fun z => by have := b.out a ha; rw [z, P.sa] at this; cases this), (fun z => by have := b.out a ha; rw [z, P.sb] at this; cases this)⟩
    have e1 : ∀ a ∈ ks, H' a = Hq a := fun a ha => by
      obtain ⟨φ, q, _⟩ := b.in_ a ha
      rw [q]; exact x.same a _ q (fun z => z) (sk a ha).1 (sk a ha).2 rfl
    have nk : ∀ {a : Addr}, H a ≠ none → a ∉ ks := fun {a} q z => q (b.out a z)
    refine ⟨e1, fun a ha => by rw [e1 a ha]; exact b.in_ a ha, fun a o q n1 n2 n3 t => ?_, fun a q => ?_, fun e he => by funext a; exact if_pos he, x.cc, fun a e q h1 h2 => ?_, fun a o u q => ?_⟩
    · rw [hidL_out (nk (by rw [q]; exact fun z => nomatch z))]; exact x.same a o (b.sub _ _ q) n1 n2 n3 t
    · rw [hidL_out (nk q)]; exact x.dom a (b.sub.ne q)
    · show if e ≤ μ.ec then er e a else er' e a ∧ a ∉ ks
      rw [if_neg (by omega)]
      exact ⟨x.new a e (b.sub.ne q) h1 h2, nk q⟩
    · obtain ⟨hb, q⟩ := hidL_some q
      rw [← b.same a hb]; exact x.nfz a o u q
  have ere : ∀ {er' : Er} {c' : Nat} {H' : Hp}, Ext g NoOw er μ.ec Hq er' c' H' → ∀ e a, hidL ks H' a ≠ none → (er' e a ↔ (if e ≤ μ.ec then er e a else er' e a ∧ a ∉ ks)) := fun {er' c' H'} x e a q => by
    split
    · rename_i he; rw [x.ere e he]
    · exact ⟨fun z => ⟨z, (mem_hidL q).1⟩, fun z => z.1⟩
  have hpk : ∀ {er' : Er} {μ' : Mu} {H' : Hp}, Ext g NoOw er μ.ec Hq er' μ'.ec H' → (∀ a ∈ ks, H' a = Hq a) → Exts ks H' → HpOk g er' H' μ' → HpOk g (fun e a => if e ≤ μ.ec then er e a else er' e a ∧ a ∉ ks) (hidL ks H') μ' := fun {er' μ' H'} x e1 xs p =>
    HpOk.hide (g := g) (av' := g.av) xs (fun a ha q => by rw [e1 a ha]; exact hn a ha q) (fun a z => by
      have z : if μ'.ec ≤ μ.ec then er μ'.ec a else er' μ'.ec a ∧ a ∉ ks := z
      split at z
      · rename_i he
        have e0 : μ'.ec = μ.ec := Nat.le_antisymm he x.cc
        rw [e0] at z ⊢
        exact ⟨fun q => P.er a z (b.out a q), by rw [x.ere _ (Nat.le_refl _)]; exact z⟩
      · exact ⟨z.2, z.1⟩) (fun a z => ⟨fun q => P.av a z (b.out a q), z⟩) p
  cases r with
  | no => exact h
  | ex x fs μ' =>
    intro cls dd H' er' xx p q
    obtain ⟨e1, xs, x1⟩ := key xx
    refine ⟨e1, ?_⟩
    obtain ⟨C, fvs, q1, q2, q3, q4⟩ := q
    refine h cls dd _ _ x1 (hpk xx e1 xs p) ⟨C, fvs, q1, q2, (xs.out q3 fun φ z => nomatch z).2, ?_⟩
    have hid_fs : ∀ {vs : List (Str × V)} {ds : List (Str × D)}, RepFs g er' μ'.ec NoOw H' vs ds → RepFs g er' μ'.ec NoOw (hidL ks H') vs ds := fun {vs ds} r => by
      induction r with
      | nil => exact .nil
      | cons q r ih => exact .cons (RepD.hide xs q) ih
    exact RepFs.erx (ere xx) (hid_fs q4)
  | ok d μ' =>
    intro v H' er' xx p q
    obtain ⟨e1, xs, x1⟩ := key xx
    exact ⟨e1, h v _ _ x1 (hpk xx e1 xs p) (RepD.erx (ere xx) (RepD.hide xs q))⟩
end
end GW

set_option maxHeartbeats 2000000
namespace GW
open PySem PySem.Spec PyProof.Rows L2
/-- captured slots -/
inductive Caps (N : List Str) (scope : Scope) : List Str → List Nat → Prop
  | nil : Caps N scope [] []
  | cons {x : Str} {i : Nat} {xs : List Str} {is : List Nat} (hi : N[i]? = some x) (hf : (x, NameKind.free) ∈ scope.names) (r : Caps N scope xs is) : Caps N scope (x :: xs) (i :: is)
/-- a lambda of the text, where it is made -/
structure LamMk (g : Gd) (X : Cx) (sc : Scope) (N : List Str) (m : Nat) (caps : List Nat) (params : Arguments) (body : Expr) (scope : Scope) : Prop where
  ex : ∃ (L : LamD) (c P : Addr), g.lam m = some L ∧ L = ⟨X.env.qual ++ "<lambda>", params, body, scope, L.fr⟩ ∧ LamX.TabB X.base X.mg c P ∧ X.env.code = .ref c ∧ (P, X.env.qual ++ "<lambda>") ∈ g.T ∧ (∀ p ∈ g.T, p.1 = P → p.2 = X.env.qual ++ "<lambda>") ∧ Caps N scope L.fr caps
  defs : defaultsOf params X.env = ([], [])
  free : ∀ y ∈ scope.names, y.2 = .free → sc.names.lookup y.1 = some .cell ∨ sc.names.lookup y.1 = some .free
section
variable {g : Gd} {X : Cx} {W : WX} {σ : St} {er : Er} {H H2 : Hp} {ρ : Ro} {μ : Mu} {c : Nat} {ow ow' : Addr → Prop} {av : Addr → Prop} {bl : List Str} {n : Nat} {N : List Str} {sc : Scope} {α β : Type} {tg iter : Expr}
/-- the arguments, one of them a lambda -/
def RunLA (X : Cx) (es : List Expr) (params : Arguments) (body : Expr) (scope : Scope) (σ : St) (H : Hp) (R : List V → List V → Addr → Addr → Value → Value → Hp → Prop) : Prop := ∀ (pos : Pos) (pins : List (Addr × Obj)) (s : Shared), Inv X pins σ H s →
  wpAny (model X.prog X.w) X.A (spliced (backTo pos (starEach es X.env))) (fun us s' => ∃ vs1 vs2 f c' pm ctv H', Inv X pins σ H' s' ∧ Vals (vs1 ++ .ref f :: vs2) us ∧
    s'.heap.get? f = some (PySem.W.kla_obj "<lambda>" (X.env.qual ++ "<lambda>") params body scope (cloFrom X.env.cells scope.names []) pm c' ctv) ∧ H' f = none ∧ f ∉ frs X.stack ∧ X.s_0.heap.objs.size ≤ f ∧ H' c' = some (LamX.CodeO c' (X.env.qual ++ "<lambda>")) ∧ R vs1 vs2 f c' pm ctv H') X.xe s
def OkLA (g : Gd) (X : Cx) (es : List Expr) (params : Arguments) (body : Expr) (scope : Scope) (f : Ro → Mu → Rs (List D × List D)) : Prop := ∀ (av : Addr → Prop) (W : WX) (σ : St) (er : Er) (H : Hp) (ρ : Ro) (μ : Mu) (R : List V → List V → Addr → Addr → Value → Value → Hp → Prop), Takes X W → RepEnv (g.at av) er μ.ec H ρ σ → HpOk (g.at av) er H μ →
  DenG (g.at av) W σ er H ρ μ (f ρ μ) (fun p ρ' μ' H' er' => ∀ vs1 vs2 f c' pm ctv, RepOs (g.at av) er' μ'.ec H' ρ' σ vs1 p.1 → RepOs (g.at av) er' μ'.ec H' ρ' σ vs2 p.2 → R vs1 vs2 f c' pm ctv H') → RunLA X es params body scope σ H R
def laN (f : Ro → Mu → Rs (List D)) : Ro → Mu → Rs (List D × List D) := fun ρ μ => (f ρ μ).bind fun ds ρ1 μ1 => .ok ([], ds) ρ1 μ1
def laC (f : Ro → Mu → Rs D) (r : Ro → Mu → Rs (List D × List D)) : Ro → Mu → Rs (List D × List D) := fun ρ μ => (f ρ μ).bind fun d ρ1 μ1 => (r ρ1 μ1).bind fun p ρ2 μ2 => .ok (d :: p.1, p.2) ρ2 μ2
theorem OkLA.cons {e : Expr} {es : List Expr} {params : Arguments} {body : Expr} {scope : Scope} {f : Ro → Mu → Rs D} {r : Ro → Mu → Rs (List D × List D)} (O : OkE g X e f) (R : OkLA g X es params body scope r) (hs : starEach (e :: es) X.env = (false, eval e X.env) :: starEach es X.env := by rfl) : OkLA g X (e :: es) params body scope (laC f r) := by
  intro av W σ er H ρ μ Q tk E P h pos pins s I
  rw [hs]
  show wpAny _ _ (spliced ((false, eval e X.env) :: backTo pos (starEach es X.env))) _ _ s
  have run := O av W σ er H ρ μ (fun x H1 => RunLA X es params body scope σ H1 fun vs1 vs2 => Q (x :: vs1) vs2) tk E P (DenG.e (h.bind fun d ρ1 μ1 H1 er1 _ n1 h1 v hv =>
    R av W σ er1 H1 ρ1 μ1 _ tk n1.env n1.hp (h1.bind fun p ρ2 μ2 H2 er2 _ n2 h2 vs1 vs2 f c' pm ctv r1 r2 => h2.ok n2.env n2.hp (v :: vs1) vs2 f c' pm ctv (.cons (hv.nx n2 n1.env n1.hp) r1) r2)))
  refine Calls.spliced_cons (thn (run pins s I) fun u s1 ⟨x, H1, I1, rx, q1⟩ => ?_)
  exact thn (q1 pos pins s1 I1) fun us s2 ⟨vs1, vs2, f, c', pm, ctv, H2, I2, rs, q⟩ => ⟨x :: vs1, vs2, f, c', pm, ctv, H2, I2, .cons rx rs, q⟩
theorem OkLA.here {es : List Expr} {params : Arguments} {body : Expr} {scope : Scope} {lpos : Pos} {m : Nat} {caps : List Nat} {f : Ro → Mu → Rs (List D)} (C : Cxt g bl n N sc X) (M : LamMk g X sc N m caps params body scope) (O : OkA g X es f)
    (hs : starEach (.Lambda params body scope lpos :: es) X.env = (false, eval (.Lambda params body scope lpos) X.env) :: starEach es X.env := by rfl) : OkLA g X (.Lambda params body scope lpos :: es) params body scope (laN f) := by
  intro av W σ er H ρ μ Q tk E P h pos pins s I
  obtain ⟨L, cc, PP, hL, eL, TB, hcode, hmT, huT, hcaps⟩ := M.ex
  rw [hs]
  show wpAny _ _ (spliced ((false, eval (.Lambda params body scope lpos) X.env) :: backTo pos (starEach es X.env))) _ _ s
  have hfree : ∀ y ∈ scope.names, y.2 = .free → ∃ c, X.env.cells.lookup y.1 = some c := fun y hy e => by
    have := M.free y hy e
    rw [← C.hsc] at this
    exact I.ok.has _ this
  refine Calls.spliced_cons (lam_make3 I TB hcode hmT huT P.tabs M.defs hfree fun f0 c' pm ctv H1 s1 I1 eN dom nz T1 hf hfn hfr hsz hco => ?_)
  have n0 := nx_lam E P eN dom nz T1
  have fpk : FpOk X pins H1 f0 := by
    refine ⟨hfn, fun z => ?_, fun z => ?_, .inr (Nat.le_trans I.sz hsz), fun x b e z => ?_, fun p hp z => ?_⟩
    · exact absurd (Nat.lt_of_lt_of_le I.lt hsz) (by rw [z]; exact Nat.lt_irrefl _)
    · exact I.nofs hsz z
    · obtain ⟨v, q⟩ := I.cell x b e
      exact absurd (Nat.lt_of_lt_of_le q.lt (by rw [z]; exact hsz)) (Nat.lt_irrefl _)
    · exact absurd (Nat.lt_of_lt_of_le (Heap.lt_size (I.pin p hp).1) (by rw [z]; exact hsz)) (Nat.lt_irrefl _)
  have I2 := I1.pinned (fp := [f0]) (fun b hb => by rw [List.mem_singleton] at hb; rw [hb]; exact fpk) (fun b hb => by rw [List.mem_singleton] at hb; rw [hb]; exact ⟨_, hf, fun v z => by cases z⟩)
  have hm0 := mem_pinsAt (fp := [f0]) (List.mem_singleton.mpr rfl) hf
  have run := O av W σ er H1 ρ μ (fun vs H2 => H2 c' = some (LamX.CodeO c' (X.env.qual ++ "<lambda>")) ∧ Q [] vs f0 c' pm ctv H2) tk n0.env n0.hp (DenG.a ((DenG.nx n0 h).bind fun ds ρ1 μ1 H2 er1 _ n1 h1 vs rv => ⟨n1.x.ext hco n0.env.owl n0.hp.sal, h1.ok n1.env n1.hp [] vs f0 c' pm ctv .nil rv⟩))
  exact thn (run pos _ s1 I2) fun us s2 ⟨vs, H2, I3, rs, hc2, q⟩ => ⟨[], vs, f0, c', pm, ctv, H2, I3.unpinned, .cons rfl rs, (I3.pin _ (List.mem_append_right _ (List.mem_append_right _ hm0))).1, (I3.pin _ (List.mem_append_right _ (List.mem_append_right _ hm0))).2.1, hfr, Nat.le_trans I.sz hsz, hc2, q⟩
def callL (F : List D → Mu → Rf) (m : Nat) (caps : List Nat) (ds1 ds2 : List D) (ρ : Ro) (μ : Mu) : Rs D := match passA ρ ds1, passA ρ (caps.map D.own), passA ρ ds2 with
  | some a, some ws, some b => match F (a ++ .clo m ws :: b) μ with
    | .ok d μ' => .ok d (if flatR d then ρ else giveA (ds1 ++ caps.map D.own ++ ds2) ρ) μ'
    | .ex x fs μ' => .ex x fs (giveA (ds1 ++ caps.map D.own ++ ds2) ρ) μ'
    | .no => .no
  | _, _, _ => .no
theorem RepOs.append {vs1 vs2 : List V} {ds1 ds2 : List D} (h1 : RepOs g er c H ρ σ vs1 ds1) (h2 : RepOs g er c H ρ σ vs2 ds2) : RepOs g er c H ρ σ (vs1 ++ vs2) (ds1 ++ ds2) := by
  induction h1 with
  | nil => exact h2
  | cons h r ih => exact .cons h ih
theorem RepOs.length {vs : List V} {ds : List D} (h : RepOs g er c H ρ σ vs ds) : vs.length = ds.length := by
  induction h with
  | nil => rfl
  | cons h r ih => simp [ih]
theorem RepPs.append {vs1 vs2 : List V} {ds1 ds2 : List D} (h1 : RepPs g er c H vs1 ds1) (h2 : RepPs g er c H vs2 ds2) : RepPs g er c H (vs1 ++ vs2) (ds1 ++ ds2) := by
  induction h1 with
  | nil => exact h2
  | cons h r ih => exact .cons h ih
/-- the captured slots' values -/
theorem caps_vals {scope : Scope} {xs : List Str} {caps : List Nat} (E : RepEnv (g.at av) er c H ρ σ) (h : Caps N scope xs caps) : ∀ {ws : List D}, passA ρ (caps.map D.own) = some ws → ∃ vs, RepOs (g.at av) er c H ρ σ vs (caps.map D.own) ∧ vs.length = xs.length ∧ ∀ (j : Nat) (x : Str) (v : V), xs[j]? = some x → vs[j]? = some v → ∃ i : Nat, N[i]? = some x ∧ (x, NameKind.free) ∈ scope.names ∧ σ[i]? = some (some v) := by
  induction h with
  | nil => intro ws e; exact ⟨[], .nil, rfl, fun j x v h => by cases h⟩
  | @cons x i xs is hi hf r ih =>
    intro ws e
    rw [List.map_cons] at e
    unfold passA at e
    cases e1 : pass1 ρ (.own i) with
    | none => rw [e1] at e; cases e
    | some a =>
      cases e2 : passA ρ (is.map D.own) with
      | none => rw [e1, e2] at e; cases e
      | some b =>
        obtain ⟨vs, h1, h2, h3⟩ := ih e2
        have hs : ∃ v, σ[i]? = some (some v) := by
          unfold pass1 at e1
          simp only at e1
          cases q : ρ[i]? with
          | none => rw [q] at e1; cases e1
          | some sv =>
            cases sv with
            | un => rw [q] at e1; cases e1
            | val d => obtain ⟨v, h, _⟩ := E.val i d q; exact ⟨v, h⟩
            | ol e' xs => obtain ⟨a, vs, h, _⟩ := E.ol i e' xs q; exact ⟨_, h⟩
            | od e' xs => obtain ⟨a, vs, h, _⟩ := E.od i e' xs q; exact ⟨_, h⟩
        obtain ⟨v, hs⟩ := hs
        refine ⟨v :: vs, .cons hs h1, by rw [List.length_cons, List.length_cons, h2], fun j x' v' e3 e4 => ?_⟩
        cases j with
        | zero => cases e3; cases e4; exact ⟨i, hi, hf, hs⟩
        | succ j => exact h3 j x' v' e3 e4
theorem cellsO_of {Hq : Hp} {cl : List (Str × Addr)} : ∀ {xs : List Str} {vs : List V}, vs.length = xs.length → (∀ (j : Nat) (x : Str) (v : V), xs[j]? = some x → vs[j]? = some v → ∃ c o u, cl.lookup x = some c ∧ Hq c = some (CellO o c) ∧ o.data = .cell (some u) ∧ RelV v u) → CellsO Hq cl xs vs
  | [], [], _, _ => .nil
  | [], _ :: _, h, _ => by cases h
  | _ :: _, [], h, _ => by cases h
  | x :: xs, v :: vs, h, k => by
    obtain ⟨c, o, u, h1, h2, h3, h4⟩ := k 0 x v rfl rfl
    exact .cons h1 h2 h3 h4 (cellsO_of (by simpa using h) fun j y w e1 e2 => k (j + 1) y w e1 e2)
theorem repVs_of {Hq : Hp} : ∀ {vs : List V} {ds : List D}, RepPs g er c Hq vs ds → RepVs g er c NoOw Hq vs ds
  | _, _, .nil => .nil
  | _, _, .cons h r => .cons h (repVs_of r)
def evCallL (np : Nat) (F : List D → Mu → Rf) (m : Nat) (caps : List Nat) (fa : Ro → Mu → Rs (List D × List D)) : Ro → Mu → Rs D := fun ρ μ => (fa ρ μ).bind fun p ρ1 μ1 => if p.1.length + 1 + p.2.length = np then callL F m caps p.1 p.2 ρ1 μ1 else .no
theorem OkE.callLam {k np m : Nat} {x : Str} {F : List D → Mu → Rf} {caps : List Nat} {params : Arguments} {body : Expr} {scope : Scope} {e : Expr} {es : List Expr} {fa : Ro → Mu → Rs (List D × List D)} {p pos : Pos} (C : Cxt g bl n N sc X) (S : CxS X) (M : LamMk g X sc N m caps params body scope) (Fx : Fun g X k x np F) (hk : k ≤ n) (hg : sc.names.lookup x = some .globalImplicit) (hd : (x == ("__debug__" : Str)) = false) (Oa : OkLA g X (e :: es) params body scope fa)
    (he : starEach (e :: es) X.env = (false, eval e X.env) :: starEach es X.env := by rfl) (hpl : (backTo pos (starEach es X.env)).any (·.1) = false := by rfl) : OkE g X (.Call (.Name x p) (e :: es) [] pos) (evCallL np F m caps fa) := by
  intro av W σ er H ρ μ Q tk E P h pins s I
  obtain ⟨f, fd, ps, Fk, hm, kp, hb⟩ := Fx.ex
  obtain ⟨⟨q0, pr0, bd0, sc0, fr0⟩, cc, PP, hL, eL, _, _, _, _, hcaps⟩ := M.ex
  injection eL with eq1 eq2 eq3 eq4 _
  subst eq1 eq2 eq3 eq4
  refine wpAny_Call_Name_kw (ld_glob I (C.gl hg) hm ?_ hd)
  have run := Oa av W σ er H ρ μ (fun vs1 vs2 f0 c' pm ctv H1 => ∃ ds1 ds2 ρ1 μ1 er1, RepEnv (g.at av) er1 μ1.ec H1 ρ1 σ ∧ HpOk (g.at av) er1 H1 μ1 ∧ RepOs (g.at av) er1 μ1.ec H1 ρ1 σ vs1 ds1 ∧ RepOs (g.at av) er1 μ1.ec H1 ρ1 σ vs2 ds2 ∧ ds1.length + 1 + ds2.length = np ∧ DenG (g.at av) W σ er1 H1 ρ1 μ1 (callL F m caps ds1 ds2 ρ1 μ1) (KE (g.at av) σ Q)) tk E P
    (h.toG.bind fun p ρ1 μ1 H1 er1 _ n1 h1 vs1 vs2 f0 c' pm ctv r1 r2 => by
      split at h1
      · rename_i hl
        exact ⟨p.1, p.2, ρ1, μ1, er1, n1.env, n1.hp, r1, r2, hl, h1⟩
      · exact h1.elim)
  refine PySem.W.callWith_K (h₀ := X.base) I.ok.mod.kin kp (thn (run pos pins s I) fun us s1 hz => ?_) he hpl
  obtain ⟨vs1, vs2, f0, c', pm, ctv, H1, I1, ru, hf, hfn, hfr, hsz, hco, ds1, ds2, ρ1, μ1, er1, E1, P1, r1, r2, hl, h1⟩ := hz
  refine ⟨I1.kIn, ?_⟩
  show wpAny _ _ (PySem.call (.ref f) us) _ _ _
  unfold callL at h1
  cases e1 : passA ρ1 ds1 with
  | none => rw [e1] at h1; exact h1.elim
  | some a =>
  cases e2 : passA ρ1 (caps.map D.own) with
  | none => rw [e1, e2] at h1; exact h1.elim
  | some ws =>
  cases e3 : passA ρ1 ds2 with
  | none => rw [e1, e2, e3] at h1; exact h1.elim
  | some b =>
  rw [e1, e2, e3] at h1
  simp only at h1
  obtain ⟨vc, rc, lc, hc⟩ := caps_vals E1 hcaps e2
  let given := ds1 ++ caps.map D.own ++ ds2
  let cl := cloFrom X.env.cells sc0.names []
  let ks := f0 :: cl.map (·.2)
  -- the cells
  have clX : ∀ {y : Str} {d : Addr}, (y, d) ∈ cl → X.env.cells.lookup y = some d := fun {y d} hmem => by
    rcases cloFrom_mem hmem with hz | ⟨h3, h4⟩
    · cases hz
    · have := M.free (y, .free) h3 rfl
      rw [← C.hsc] at this
      obtain ⟨d', hd'⟩ := I1.ok.has _ this
      have hd' : X.env.cells.lookup y = some d' := hd'
      rw [hd'] at h4
      rw [h4]; exact hd'
  have clL : ∀ {y : Str} {d : Addr}, cl.lookup y = some d → X.env.cells.lookup y = some d := fun h => clX (PySem.mem_of_lookup h)
  have cellAt : ∀ a ∈ cl.map (·.2), ∃ o v, s1.heap.get? a = some o ∧ o.data = .cell v ∧ H1 a = none ∧ X.s_0.heap.objs.size ≤ a ∧ a ≠ X.env.locals := fun a ha => by
    obtain ⟨q, hq, rfl⟩ := List.mem_map.mp ha
    have e := clX (y := q.1) (d := q.2) hq
    obtain ⟨v, o, h3, h4⟩ := I1.cell _ _ e
    exact ⟨o, v, h3, h4, I1.freeC _ _ e, I1.ok.cab _ _ (S.fn _) e, I1.cne _ _ e⟩
  let Hq : Hp := fun b => if b = f0 then some (LamO ⟨X.env.qual ++ "<lambda>", pr0, bd0, sc0, fr0⟩ cl f0 c' pm ctv) else if b ∈ cl.map (·.2) then (s1.heap.get? b).map fun o => CellO o b else H1 b
  have qf : Hq f0 = some (LamO ⟨X.env.qual ++ "<lambda>", pr0, bd0, sc0, fr0⟩ cl f0 c' pm ctv) := if_pos rfl
  have fncl : f0 ∉ cl.map (·.2) := fun hz => by
    obtain ⟨o, v, h3, h4, _⟩ := cellAt f0 hz
    rw [hf] at h3; cases h3; cases h4
  have qc : ∀ a ∈ cl.map (·.2), ∃ o v, Hq a = some (CellO o a) ∧ s1.heap.get? a = some o ∧ o.data = .cell v := fun a ha => by
    obtain ⟨o, v, h3, h4, _⟩ := cellAt a ha
    refine ⟨o, v, ?_, h3, h4⟩
    show (if a = f0 then _ else if a ∈ cl.map (·.2) then _ else _) = _
    rw [if_neg (fun z => fncl (by rw [← z]; exact ha)), if_pos ha, h3]; rfl
  have qo : ∀ a, a ∉ ks → Hq a = H1 a := fun a ha => by
    show (if a = f0 then _ else if a ∈ cl.map (·.2) then _ else _) = _
    rw [if_neg (fun z => ha (by rw [z]; exact List.mem_cons_self ..)), if_neg (fun z => ha (List.mem_cons_of_mem _ z))]
  have bes : Beside ks H1 Hq := ⟨fun a ha => by
      rcases List.mem_cons.mp ha with hz | hz
      · rw [hz]; exact hfn
      · obtain ⟨o, v, _, _, h5, _⟩ := cellAt a hz
        exact h5, fun a ha => by
      rcases List.mem_cons.mp ha with hz | hz
      · rw [hz]; exact ⟨_, qf, noEx_of (fun z => nomatch z) (fun vs z => nomatch z)⟩
      · obtain ⟨o, v, h3, _, h4⟩ := qc a hz
        exact ⟨_, h3, noEx_of (by rw [h4]; exact fun z => nomatch z) (fun vs => by rw [h4]; exact fun z => nomatch z)⟩, qo⟩
  have objs : ∀ a ∈ ks, ∃ o, s1.heap.get? a = some o ∧ (∀ vs, o.data ≠ .fields vs) ∧ (∀ {H' : Hp} {h' : Heap}, Hq a = H' a → HOk X.prog X.w H' h' → h'.get? a = some o) := fun a ha => by
    rcases List.mem_cons.mp ha with hz | hz
    · subst hz
      refine ⟨_, hf, (fun vs z => by cases z), fun {H' h'} e hok => ?_⟩
      exact (hok a _ (e.symm.trans qf)).1
    · obtain ⟨o, v, h3, h4, h5⟩ := qc a hz
      refine ⟨o, h4, (fun vs z => by rw [h5] at z; cases z), fun {H' h'} e hok => ?_⟩
      exact (hok a _ (e.symm.trans h3)).1
  have ncode : ∀ a ∈ ks, ∀ q, Hq a ≠ some (LamX.CodeO a q) := fun a ha q z => by
    rcases List.mem_cons.mp ha with hz | hz
    · subst hz
      rw [qf] at z
      have z' : HO.ext (fun h => h.get? a = some (PySem.W.kla_obj "<lambda>" (X.env.qual ++ "<lambda>") pr0 bd0 sc0 cl pm c' ctv)) = HO.ext _ := Option.some.inj z
      injection z' with z''
      have := congrFun z'' s1.heap
      obtain ⟨oc, cvs, t, q1, q2, _⟩ := this.mp hf
      rw [hf] at q1; cases q1; cases q2
    · obtain ⟨o, v, h3, h4, h5⟩ := qc a hz
      rw [h3] at z
      have z' : HO.ext (fun h => h.get? a = some o) = HO.ext _ := Option.some.inj z
      injection z' with z''
      have := congrFun z'' s1.heap
      obtain ⟨oc, cvs, t, q1, q2, _⟩ := this.mp h4
      rw [h4] at q1; cases q1
      rw [h5] at q2; cases q2
  have sub := bes.sub
  have okq : HOk X.prog X.w Hq s1.heap := fun a o q => by
    by_cases ha : a ∈ ks
    · rcases List.mem_cons.mp ha with hz | hz
      · subst hz
        rw [qf] at q
        have eo := Option.some.inj q
        subst eo
        exact ⟨hf, ⟨_, hf⟩, fun h1 h2 e st => st _ e⟩
      · obtain ⟨o', v, h3, h4, h5⟩ := qc a hz
        rw [h3] at q
        have eo := Option.some.inj q
        subst eo
        exact ⟨h4, ⟨_, h4⟩, fun h1 h2 e st => st _ e⟩
    · rw [qo a ha] at q
      exact (I1.hok a o q).stay (fun d v _ q => q) (fun d q => sub _ _ q) fun d xs q => sub _ _ q
  have nfr : ∀ a ∈ frs X.stack, a ∉ ks := fun a ha hz => by
    rcases List.mem_cons.mp hz with hz | hz
    · rw [hz] at ha; exact hfr ha
    · obtain ⟨o, v, _, _, _, h6, h7⟩ := cellAt a hz
      rcases List.mem_cons.mp (I1.stkSub a ha) with e | e
      · exact h7 e
      · obtain ⟨_, o', ho, _⟩ := I1.ok.funs.mem e
        exact absurd (Nat.lt_of_lt_of_le (Heap.lt_size ho) h6) (Nat.lt_irrefl _)
  have e0 := I1.env0
  have e0q : Env0 X.prog X.w X.K X.mg X.base X.A X.stack s1 Hq := ⟨e0.frames, e0.mod, fun b o e => ⟨(e0.bs b o e).1, by
      rw [qo b fun hz => ?_]
      · exact (e0.bs b o e).2
      · have hlt : b < X.s_0.heap.objs.size := Nat.lt_of_lt_of_le (Heap.lt_size e) I1.ok.bsz
        rcases List.mem_cons.mp hz with hz | hz
        · rw [hz] at hlt; exact absurd (Nat.lt_of_lt_of_le hlt hsz) (Nat.lt_irrefl _)
        · obtain ⟨_, _, _, _, _, h6, _⟩ := cellAt b hz
          exact absurd (Nat.lt_of_lt_of_le hlt h6) (Nat.lt_irrefl _)⟩, e0.bsz, e0.funs, fun b hb => by rw [qo b (nfr b hb)]; exact e0.frf b hb, okq, e0.bare⟩
  -- the closure
  have hgv : ∀ {vs : List V} {ds xs : List D}, (∀ i, D.own i ∈ ds → D.own i ∈ given) → RepOs (g.at av) er1 μ1.ec H1 ρ1 σ vs ds → passA ρ1 ds = some xs → RepPs (g.at (avC av ρ1 σ given)) er1 μ1.ec H1 vs xs := fun hi r e => pass_ok E1 hi r e
  have p1 := hgv (fun i hi => List.mem_append_left _ (List.mem_append_left _ hi)) r1 e1
  have p2 := hgv (fun i hi => List.mem_append_left _ (List.mem_append_right _ hi)) rc e2
  have p3 := hgv (fun i hi => List.mem_append_right _ hi) r2 e3
  have subH : Sub H1 (GW.hid cl Hq) := fun a o q => by
    rw [hid_out (fun hz => by obtain ⟨_, _, _, _, h5, _⟩ := cellAt a hz; rw [q] at h5; cases h5)]; exact sub _ _ q
  have clo : RepV (g.at (avC av ρ1 σ given)) er1 μ1.ec NoOw Hq (.ref f0) (.clo m ws) := by
    refine .clo (L := ⟨X.env.qual ++ "<lambda>", pr0, bd0, sc0, fr0⟩) (vs := vc) hL (fun x y b h3 h4 => I1.ok.inj x y b (clL h3) (clL h4)) qf (sub _ _ hco) (fun q hq => ?_) (cellsO_of lc fun j x v h3 h4 => ?_) (repVs_of (p2.up subH))
    · obtain ⟨o, v, h3, _, h5⟩ := qc q.2 (List.mem_map.mpr ⟨q, hq, rfl⟩)
      exact ⟨o, h3, v, h5⟩
    · obtain ⟨i, h5, h6, h7⟩ := hc j x v h3 h4
      have hk := M.free (x, .free) h6 rfl
      rw [← C.hsc] at hk
      have hvis : Vis X.env.scope x := hk.elim (fun k => .inr (.inl k)) (fun k => .inr (.inr k))
      obtain ⟨mm, _, hl'⟩ := I1.loc
      obtain ⟨u, r', l'⟩ := hl' i x v (C.at h5) h7 hvis
      rcases l' with ⟨k', _⟩ | ⟨_, d, h8, h9⟩
      · have k' : X.env.scope.names.lookup x = some .local := k'
        rcases hk with k | k <;> rw [show X.env.scope.names.lookup x = _ from k] at k' <;> cases k'
      · have hh := cloFrom_has (cells := X.env.cells) (acc := []) h6
        obtain ⟨d', hd'⟩ := mem_lookup hh
        have h10 := clL hd'
        rw [h8] at h10; cases h10
        obtain ⟨o, h11, h12⟩ := h9
        obtain ⟨o', v', h13, h14, _⟩ := qc d (look_mem hd')
        rw [h11] at h14; cases h14
        exact ⟨d, o, u, hd', h13, h12, r'⟩
  have rp : RepPs (g.at (avC av ρ1 σ given)) er1 μ1.ec Hq (vs1 ++ .ref f0 :: vs2) (a ++ .clo m ws :: b) := (p1.up sub).append (.cons clo (p3.up sub))
  have Pq : HpOk (g.at (avC av ρ1 σ given)) er1 Hq μ1 := (avC_hp E1 P1).up sub
  have la : a.length = ds1.length := by rw [← p1.length, r1.length]
  have lb : b.length = ds2.length := by rw [← p3.length, r2.length]
  have den : DenF (g.at (avC av ρ1 σ given)) (WE W σ) er1 H1 μ1 (F (a ++ .clo m ws :: b) μ1) Q := by
    cases e4 : F (a ++ .clo m ws :: b) μ1 with
    | no => rw [e4] at h1; exact h1
    | ex x fs μ' =>
      rw [e4] at h1
      intro cls dd H' er' x1 P1' q
      have n1 := nx_call E1 P1 x1 P1'
      exact h1 cls dd H' er' (n1.trans (give_nx (ds := given) n1.env n1.hp)) (ExRep.cv (g := g.at (avC av ρ1 σ given)) (av' := av) free_give q)
    | ok d μ' =>
      rw [e4] at h1
      intro v H' er' x1 P1' q
      have n1 := nx_call E1 P1 x1 P1'
      simp only at h1
      by_cases hfl : flatR d = true
      · rw [if_pos hfl] at h1
        exact h1 H' er' n1 v (.d (RepD.flat (g := g.at (avC av ρ1 σ given)) (av' := av) hfl q))
      · rw [if_neg hfl] at h1
        exact h1 H' er' (n1.trans (give_nx (ds := given) n1.env n1.hp)) v (.d (RepD.cv (g := g.at (avC av ρ1 σ given)) (av' := av) free_give q))
  have sp : spF g np F (vs1 ++ .ref f0 :: vs2) Hq (fun v H' => (∀ a ∈ ks, H' a = Hq a) ∧ Q v (hidL ks H')) (fun cls dd H' => (∀ a ∈ ks, H' a = Hq a) ∧ W cls dd σ (hidL ks H')) :=
    ⟨avC av ρ1 σ given, er1, μ1, _, Pq, rp, by rw [List.length_append, List.length_cons, la, lb]; omega, denF_back bes ncode (avC_hp E1 P1) den⟩
  have hlu : us.length = ps.length := by rw [← ru.length]; exact Fk.len _ _ _ _ sp
  have bnd := hb s1 us I1.kIn (by rw [List.append_nil]; exact hlu)
  rw [List.append_nil] at bnd
  refine wpAny_call (codeAny_mono (Fk.run X.A X.stack s1 Hq ⟨us, []⟩ us _ _ _ (C.room.mono hk) e0q bnd ru sp) fun r s2 hz => ?_)
  cases r with
  | error e =>
    obtain ⟨a', B, H', cls, d, ea, fl, hokB, ub, na, os, ag, eq', eE⟩ := hz
    obtain ⟨ub2, hok2⟩ := back_ub bes nfr (fun a ha o q1 q2 => by
      obtain ⟨o', h3, _, h5⟩ := objs a ha
      rw [q1] at h3; cases h3
      exact h5 q2 hokB) eq' ub hokB
    exact passAt tk σ pins H1 s1 e s2 I1 ⟨a', B, hidL ks H', cls, d, ea, fl, hok2, ub2, hidL_none na, os, ag, eE⟩
  | ok fl =>
    cases fl with
    | ret u =>
      obtain ⟨v, H', os, bare, un, hok, rv, eq', q⟩ := hz
      obtain ⟨un2, hok2⟩ := back_un bes nfr (fun a ha o q1 q2 => by
        obtain ⟨o', h3, _, h5⟩ := objs a ha
        rw [q1] at h3; cases h3
        exact h5 q2 hok) eq' un hok
      exact ⟨v, hidL ks H', I1.call' os un2 hok2 bare (fun b z => absurd z (by simp)), rv, q⟩
    | next => exact False.elim hz
    | brk => exact False.elim hz
    | cont => exact False.elim hz
end
end GW

set_option maxHeartbeats 2000000
namespace GW
open PySem PySem.Spec PyProof.Rows L2
section
variable {g : Gd} {X : Cx} {W : WX} {σ : St} {er : Er} {H H2 : Hp} {ρ : Ro} {μ : Mu} {c : Nat} {ow ow' : Addr → Prop} {av : Addr → Prop} {bl : List Str} {n : Nat} {N : List Str} {sc : Scope} {α β : Type} {tg iter : Expr}
/-! ### while -/
def whR (t : Ro → Mu → Rs Bool) (b : Ro → Mu → Rs Fl) : Nat → Ro → Mu → Rs Fl
  | 0, _, _ => .no
  | n + 1, ρ, μ => (t ρ μ).bind fun c ρ1 μ1 => if c then (b ρ1 μ1).bind fun o ρ2 μ2 => match o with
      | .nx => whR t b n ρ2 μ2
      | .rt d => .ok (.rt d) ρ2 μ2
    else .ok .nx ρ1 μ1
theorem OkS.while {k : Nat} {e : Expr} {body : List Stmt} {t : Ro → Mu → Rs Bool} {b : Ro → Mu → Rs Fl} {pos : Pos} (S : CxS X) (Ot : OkT g X e t) (Ob : OkSs g X body b) : OkS g X (.While e body [] pos) (whR t b k) := by
  intro av W σ0 er0 H0 ρ0 μ0 Z tk E0 P0 h0
  refine .of (ps_while S.own ptR pssR) ⟨fun m σ H => ∃ er ρ μ, NxS (g.at av) σ0 er0 H0 ρ0 μ0 σ er H ρ μ ∧ DenS (g.at av) W σ er H ρ μ (whR t b m ρ μ) Z, ⟨k, er0, ρ0, μ0, .refl E0 P0, h0⟩, ?_⟩
  rintro m σ H ⟨er, ρ, μ, mm, h⟩
  cases m with
  | zero => exact h.elim
  | succ m =>
    refine Ot av W σ er H ρ μ (fun c H1 => if c = true then ∃ Nn : St → Hp → Prop, (∀ σ' H', Nn σ' H' → ∃ m', m' < m + 1 ∧ ∃ er ρ μ, NxS (g.at av) σ0 er0 H0 ρ0 μ0 σ' er H' ρ μ ∧ DenS (g.at av) W σ' er H' ρ μ (whR t b m' ρ μ) Z) ∧ RunSs X body { Z with nx := Nn, ct := Nn, bk := Z.nx } σ H1 else Z.nx σ H1) tk mm.env mm.hp
      (DenG.t (DenS.bind h fun d ρ1 μ1 H1 er1 _ n1 h1 => ?_))
    cases d with
    | false =>
      refine iteF ?_
      exact h1 σ H1 er1 (.refl n1.env n1.hp)
    | true =>
      refine iteT ⟨fun σ' H' => ∃ er ρ μ, NxS (g.at av) σ0 er0 H0 ρ0 μ0 σ' er H' ρ μ ∧ DenS (g.at av) W σ' er H' ρ μ (whR t b m ρ μ) Z, fun σ' H' q => ⟨m, Nat.lt_succ_self m, q⟩, ?_⟩
      refine Ob av W σ er1 H1 ρ1 μ1 _ tk n1.env n1.hp ?_
      have h1 : DenS (g.at av) W σ er1 H1 ρ1 μ1 ((b ρ1 μ1).bind fun o ρ2 μ2 => match o with
        | .nx => whR t b m ρ2 μ2
        | .rt d => .ok (.rt d) ρ2 μ2) Z := h1
      cases e2 : b ρ1 μ1 with
      | no => rw [e2] at h1; exact h1
      | ex x fs ρ' μ' => rw [e2] at h1; exact h1
      | ok o ρ2 μ2 =>
        rw [e2] at h1
        simp only [Rs.bind_ok] at h1
        cases o with
        | nx => exact fun σ2 H2 er2 m2 => ⟨er2, ρ2, μ2, (mm.trans n1.s).trans m2, DenS.nxs m2 h1⟩
        | rt d => exact h1
/-! ### a def without arguments -/
def evCall0 (F : List D → Mu → Rf) : Ro → Mu → Rs D := fun ρ μ => callF F [] ρ μ
theorem OkE.call0 {k : Nat} {x : Str} {F : List D → Mu → Rf} {p pos : Pos} (C : Cxt g bl n N sc X) (Fx : Fun g X k x 0 F) (hk : k ≤ n) (hg : sc.names.lookup x = some .globalImplicit) (hd : (x == ("__debug__" : Str)) = false) : OkE g X (.Call (.Name x p) [] [] pos) (evCall0 F) := by
  intro av W σ er H ρ μ Q tk E P h pins s I
  obtain ⟨f, fd, ps, Fk, hm, kp, hb⟩ := Fx.ex
  refine wpAny_Call_Name_kw (ld_glob I (C.gl hg) hm ?_ hd)
  exact PySem.W.callWith_K0 I.kIn kp (run_fnS (us := []) (E := WE W) Fk (C.room.mono hk) hb (passAt tk σ) I .nil (spF_of E P .nil rfl h.toG))
/-! ### a new era -/
def newEra (μ : Mu) : Mu := { μ with ec := μ.ec + 1 }
theorem nx_era (E : RepEnv g er μ.ec H ρ σ) (P : HpOk g er H μ) : Nx g σ er H ρ μ (fun e a => if e = μ.ec + 1 then H a ≠ none else er e a) H ρ (newEra μ) := by
  have x : Ext g (Ow ρ σ) er μ.ec H (fun e a => if e = μ.ec + 1 then H a ≠ none else er e a) (newEra μ).ec H := ⟨fun _ _ h _ _ _ _ => h, fun _ h => h, fun e he => by
    funext a
    show (if e = μ.ec + 1 then H a ≠ none else er e a) = er e a
    rw [if_neg (by omega)], Nat.le_succ _, fun a e h h1 h2 => by
    have h2 : e ≤ μ.ec + 1 := h2
    show if e = μ.ec + 1 then H a ≠ none else er e a
    rw [if_pos (by omega)]; exact h, fun _ _ _ h => h⟩
  refine ⟨x, E.sm P.sal x fun a o h _ => h, ⟨P.sa, P.sb, P.ne, ⟨P.mu.n, P.mu.bits, P.mu.b0, P.mu.b1, P.mu.c0, P.mu.c1, P.mu.s0, P.mu.s1⟩, fun a h => ?_, P.tabs, P.av, P.nav⟩, fun a h => .inl h⟩
  have h : if (newEra μ).ec = μ.ec + 1 then H a ≠ none else er (newEra μ).ec a := h
  rw [if_pos (show (newEra μ).ec = μ.ec + 1 from rfl)] at h
  exact h
def sEra (f : Ro → Mu → Rs Fl) : Ro → Mu → Rs Fl := fun ρ μ => f ρ (newEra μ)
theorem OkSs.era {sts : List Stmt} {f : Ro → Mu → Rs Fl} (O : OkSs g X sts f) : OkSs g X sts (sEra f) := by
  intro av W σ er H ρ μ Z tk E P h
  have m := nx_era E P
  exact O av W σ _ H ρ (newEra μ) Z tk m.env m.hp (DenS.nx m h)
/-! ### dict(pairs) -/
def pairsD : List D → Option (List (Key × D))
  | [] => some []
  | .tup [k, d] :: r => match keyD k, pairsD r with
    | some k, some r => some ((k, d) :: r)
    | _, _ => none
  | _ :: _ => none
def mergeD (kvs more : List (Key × D)) : List (Key × D) := more.foldl (fun acc kv => putD acc kv.1 kv.2) kvs
theorem RepKs.merge : ∀ {vs ws : List (Key × V)} {ds es : List (Key × D)}, RepKs g er c H ow vs ds → RepKs g er c H ow ws es → (vs.map (·.1)).Nodup → RepKs g er c H ow (mergeK vs ws) (mergeD ds es) ∧ ((mergeK vs ws).map (·.1)).Nodup
  | vs, _, ds, _, r, .nil, nd => ⟨r, nd⟩
  | vs, _, ds, _, r, .cons (k := k) (v := v) (d := d) (vs := ws) (ds := es) h s, nd => by
    have := RepKs.merge (r.put (k := k) h) s (put_nodup (k := k) (v := v) nd)
    exact this
theorem pairs_rep : ∀ {vs : List V} {ds : List D} {kds : List (Key × D)}, RepDs g er c H ow vs ds → pairsD ds = some kds → ∃ (ps : List Addr) (kvs : List (Key × V)), vs = ps.map V.ref ∧ RepKs g er c H ow kvs kds ∧ Paired (fun p (kv : Key × V) => SqT g.K H p [kV kv.1, kv.2]) ps kvs
  | [], [], kds, _, e => by cases e; exact ⟨[], [], rfl, .nil, .nil⟩
  | v :: vs, d :: ds, kds, .cons h r, e => by
    unfold pairsD at e
    split at e
    · rename_i hh; cases hh
    · rename_i k d' r' hh
      injection hh with h1 h2
      subst h1 h2
      cases e1 : keyD k with
      | none => rw [e1] at e; cases e
      | some kk =>
        cases e2 : pairsD ds with
        | none => rw [e1, e2] at e; cases e
        | some kr =>
          rw [e1, e2] at e
          cases e
          obtain ⟨ps, kvs, q1, q2, q3⟩ := pairs_rep r e2
          cases h with
          | tup ht rt =>
            rename_i a ws
            cases rt with
            | cons hk rt =>
              cases rt with
              | cons hv rt =>
                cases rt
                have ek := keyD_rep (.ofV (.d hk)) e1
                subst ek
                exact ⟨a :: ps, (kk, _) :: kvs, by rw [q1]; rfl, .cons hv q2, .cons ht q3⟩
    · cases e
def kDict : Nat → List D → Option NV
  | c, [.lst _ xs] => (pairsD xs).map fun kds => .nd c (mergeD [] kds)
  | c, [.dic _ kvs] => some (.nd c kvs)
  | _, _ => none
theorem bi_dict (hc : X.calm = true) : BiN X (.type "dict") kDict := by
  intro g W σ er H H0 ρ μ vs ds d Q hK E P r h0 e h
  unfold kDict at e
  split at e
  · obtain ⟨v, rfl, q⟩ := q1 r
    obtain ⟨a, us, rfl, h1, h2⟩ := q_lst q
    obtain ⟨kds, e1, rfl⟩ := Option.map_eq_some_iff.mp e
    obtain ⟨ps, kvs, q1, q2, q3⟩ := pairs_rep h2 e1
    obtain ⟨m1, m2⟩ := RepKs.merge (vs := []) (ds := []) .nil q2 .nil
    refine .of (call_dictP hc) ⟨a, ps, kvs, rfl, .of (by rw [← q1]; exact h1), by rw [hK]; exact q3, fun p hp => h.nd E P hp (h0 p) m2 m1⟩
  · obtain ⟨v, rfl, q⟩ := q1 r
    obtain ⟨a, us, rfl, h1, h2, h3⟩ := q_dic q
    cases e
    exact .of call_dictD ⟨a, us, rfl, h1, fun p hp => h.nd E P hp (h0 p) h2 h3⟩
  · cases e

/-! ### dict displays -/
def OkDs (g : Gd) (X : Cx) (pos : Pos) (keys : List (Option Expr)) (values : List Expr) (f : Ro → Mu → Rs (List (Key × D))) : Prop := ∃ trs, PPs X pos keys values trs ∧ ∀ (av : Addr → Prop) (W : WX) (σ : St) (er : Er) (H : Hp) (ρ : Ro) (μ : Mu) (Q : List (V × V) → Hp → Prop), Takes X W → RepEnv (g.at av) er μ.ec H ρ σ → HpOk (g.at av) er H μ →
  DenG (g.at av) W σ er H ρ μ (f ρ μ) (fun kds ρ' μ' H' er' => ∀ kvs : List (Key × V), RepKs (g.at av) er' μ'.ec H' (Ow ρ' σ) kvs kds → kvs.length = values.length → Q (kvs.map fun kv => (kV kv.1, kv.2)) H') → tPairs trs σ H Q
def dNil : Ro → Mu → Rs (List (Key × D)) := fun ρ μ => .ok [] ρ μ
def dCons (fk fv : Ro → Mu → Rs D) (r : Ro → Mu → Rs (List (Key × D))) : Ro → Mu → Rs (List (Key × D)) := fun ρ μ => (fk ρ μ).bind fun y ρ1 μ1 => match keyD y with
  | some k => (fv ρ1 μ1).bind fun d ρ2 μ2 => (datR d ρ2 μ2).bind fun d ρ3 μ3 => (r ρ3 μ3).bind fun kds ρ4 μ4 => .ok ((k, d) :: kds) ρ4 μ4
  | none => .no
theorem OkDs.nil {pos : Pos} : OkDs g X pos [] [] dNil := ⟨_, pps_nil, fun av W σ er H ρ μ Q tk E P h => h.ok E P [] .nil rfl⟩
theorem RepKs.nx {er' : Er} {H' : Hp} {ρ' : Ro} {μ' : Mu} {v : List (Key × V)} {d : List (Key × D)} (m : Nx g σ er H ρ μ er' H' ρ' μ') (E : RepEnv g er μ.ec H ρ σ) (P : HpOk g er H μ) (h : RepKs g er μ.ec H (Ow ρ σ) v d) : RepKs g er' μ'.ec H' (Ow ρ' σ) v d := RepKs.ext m.x E.owl P.sal m.ow h
theorem OkDs.cons {pos : Pos} {k v : Expr} {ks : List (Option Expr)} {vs : List Expr} {fk fv : Ro → Mu → Rs D} {r : Ro → Mu → Rs (List (Key × D))} (Ok : OkE g X k fk) (Ov : OkE g X v fv) (R : OkDs g X pos ks vs r) : OkDs g X pos (some k :: ks) (v :: vs) (dCons fk fv r) := by
  obtain ⟨trs, p1, p2⟩ := R
  refine ⟨_, pps_cons peR peR p1, fun av W σ er H ρ μ Q tk E P h => ?_⟩
  refine Ok av W σ er H ρ μ _ tk E P (DenG.e (h.bind fun y ρ1 μ1 H1 er1 _ n1 h1 kv hk => ?_))
  cases e1 : keyD y with
  | none => simp only [e1] at h1; exact h1.elim
  | some kk =>
    simp only [e1] at h1
    have ek : kv = kV kk := by
      cases y with
      | own i => cases e1
      | _ => exact keyD_rep (.ofV hk) e1
    subst ek
    refine Ov av W σ er1 H1 ρ1 μ1 _ tk n1.env n1.hp (DenG.e (h1.bind fun d ρ2 μ2 H2 er2 _ n2 h2 u hu => ?_))
    unfold datR at h2
    cases e2 : fz d ρ2 with
    | none => rw [e2] at h2; exact h2.elim
    | some q =>
      obtain ⟨d', ρ3⟩ := q
      rw [e2] at h2
      simp only [Rs.bind_ok] at h2
      obtain ⟨n3, r3⟩ := fz_ok n2.env n2.hp hu e2
      refine p2 av W σ er2 H2 ρ3 μ2 _ tk n3.env n3.hp ((DenG.nx n3 h2).bind fun kds ρ4 μ4 H4 er4 _ n4 h4 kvs rk hl => ?_)
      exact h4.ok n4.env n4.hp ((kk, u) :: kvs) (.cons (r3.nx n4 n3.env n3.hp) rk) (by rw [List.length_cons, List.length_cons, hl])
def evDict (f : Ro → Mu → Rs (List (Key × D))) : Ro → Mu → Rs NV := fun ρ μ => (f ρ μ).bind fun kds ρ1 μ1 => .ok (.nd μ.ec (mergeD [] kds)) ρ1 μ1
theorem OkN.dict {keys : List (Option Expr)} {values : List Expr} {f : Ro → Mu → Rs (List (Key × D))} {pos : Pos} (O : OkDs g X pos keys values f) (hall : keys.all (·.isSome) = true) (hl : keys.length = values.length) (h0 : keys ≠ []) (h15 : keys.length ≤ 15) : OkN g X (.Dict keys values pos) (evDict f) := by
  obtain ⟨trs, p1, p2⟩ := O
  intro av W σ er H ρ μ Q tk E P h
  refine .of (pe_disp p1 hall hl h0 h15) fun p hp => ?_
  have w := new_dic (vs := []) (ds := []) E P hp .nil .nil
  have x0 : Ext (g.at av) (Ow ρ σ) er μ.ec H er μ.ec (upd H p (.dK [])) := ext_new _ hp
  have nop : ¬ Ow ρ σ p := fun z => (E.owl p z).elim (fun ⟨_, q⟩ => by rw [hp] at q; cases q) (fun ⟨_, q⟩ => by rw [hp] at q; cases q)
  have low : ∀ {ρ' : Ro} {a : Addr}, (Ow ρ σ a ∨ upd H p (.dK []) a = none) → Ow ρ σ a ∨ H a = none := fun {ρ' a} z => z.imp id fun q => by
    by_cases e : a = p
    · rw [e]; exact hp
    · rw [upd_ne e] at q; exact q
  refine p2 (fun a => av a ∨ a = p) W σ er (upd H p (.dK [])) ρ μ _ tk w.env w.hp ?_
  unfold evDict at h
  cases e1 : f ρ μ with
  | no => rw [e1] at h; exact h
  | ex x fs ρ' μ' =>
    rw [e1] at h
    intro cls dd H' er' m q
    have y1 : Ext (g.at av) (Ow ρ σ) er μ.ec (upd H p (.dK [])) er' μ'.ec H' := ext_av (g := g.at av) (av2 := av) m.x
    exact h cls dd H' er' ⟨x0.trans y1 fun a z => .inl z, RepEnv.cv (g := (g.at av).and p) (av' := av) m.env free_and (fun a _ h z => h (.inl z)), HpOk.cv (g := (g.at av).and p) (av' := av) m.hp (fun a z => m.hp.avs (.inl z)), fun a z => low (ρ' := ρ') (m.ow a z)⟩ (ExRep.cv (g := (g.at av).and p) (av' := av) free_and q)
  | ok kds ρ' μ' =>
    rw [e1] at h
    intro H' er' m kvs rk hlen
    have hp' : H' p = some (.dK []) := m.x.same p _ upd_same nop w.sa w.sb rfl
    have y1 : Ext (g.at av) (Ow ρ σ) er μ.ec (upd H p (.dK [])) er' μ'.ec H' := ext_av (g := g.at av) (av2 := av) m.x
    obtain ⟨m1, m2⟩ := RepKs.merge (vs := []) (ds := []) .nil rk .nil
    have LDp : LD (HO.dK []) := .inr ⟨_, rfl⟩
    have E2 := RepEnv.atp (g := g.at av) (o' := .dK (mergeK [] kvs)) m.hp.sal hp' LDp m.env
    have P2 := HpOk.atp (g := (g.at av).and p) (o' := .dK (mergeK [] kvs)) hp' LDp w.sa w.sb m.hp
    have y2 : Ext (g.at av) (fun a => a = p) er' μ'.ec H' er' μ'.ec (upd H' p (.dK (mergeK [] kvs))) := ext_mut rfl
    have xx : Ext (g.at av) (Ow ρ σ) er μ.ec H er' μ'.ec (upd H' p (.dK (mergeK [] kvs))) := x0.trans (ow' := fun a => Ow ρ σ a ∨ a = p) ((y1.mono fun a z => .inl (.inl z)).trans y2 fun a z => .inl (.inr z)) fun a z => z.imp id fun e => by rw [e]; exact hp
    refine ⟨hp', kvs, rfl, by rw [hlen, ← hl]; exact h15, h _ er' ⟨xx, RepEnv.cv (g := (g.at av).and p) (av' := av) E2 free_and (fun a _ h z => h (.inl z)), HpOk.cv (g := (g.at av).and p) (av' := av) P2 (fun a z => P2.avs (.inl z)), fun a z => low (ρ' := ρ') (m.ow a z)⟩ p ⟨E2, P2, ?_, w.sa, w.sb, w.av, ⟨_, upd_same, m2, RepKs.atp m.env.owl m.hp.sal hp' LDp m1⟩⟩ hp⟩
    exact w.era.ext m.x (by rw [upd_same]; exact fun z => nomatch z)
end
end GW

set_option maxHeartbeats 2000000
namespace GW
open PySem PySem.Spec PyProof.Rows L2
section
variable {g : Gd} {X : Cx} {W : WX} {σ : St} {er : Er} {H H2 : Hp} {ρ : Ro} {μ : Mu} {c : Nat} {ow ow' : Addr → Prop} {av : Addr → Prop} {bl : List Str} {n : Nat} {N : List Str} {sc : Scope} {α β : Type} {tg iter : Expr}
def kNeg (x : D) : Option D := match x with
  | .int i => some (.int (-i))
  | _ => none
theorem OkE.neg {a : Expr} {f : Ro → Mu → Rs D} {pos : Pos} (O : OkE g X a f) : OkE g X (.UnaryOp .USub a pos) (ev1 (fun _ x => kNeg x) f) := by
  intro av W σ er H ρ μ Q tk E P h
  refine .of (pe_un un_neg peR) (run_one O tk E P h fun x ρ1 μ1 v H1 er1 E1 P1 hx h1 => ?_)
  obtain ⟨y, d, e1, e2, h2⟩ := den_one h1
  unfold kNeg at e2
  split at e2
  · cases e2
    have := q_int (rsv_ok E1 hx e1)
    exact ⟨_, this, den_d h2 E1 P1 (.int _)⟩
  · cases e2
def kRev (c : Nat) (x : D) : Option D := match x with
  | .lst _ xs => some (.lst c xs.reverse)
  | _ => none
theorem OkE.rev {e : Expr} {f : Ro → Mu → Rs D} {k : Nat} {p1 p2 p3 pos : Pos} (hK : X.K = g.K) (O : OkE g X e f) : OkE g X (.Subscript e (.Slice none none (some (.UnaryOp .USub (.Constant (.int 1) k p1) p2)) p3) pos) (ev1 kRev f) := by
  intro av W σ er H ρ μ Q tk E P h
  refine .of (pe_revL peR) (run_one O tk E P h fun x ρ1 μ1 v H1 er1 E1 P1 hx h1 => ?_)
  obtain ⟨y, d, e1, e2, h2⟩ := den_one h1
  unfold kRev at e2
  split at e2
  · cases e2
    obtain ⟨a, vs, rfl, q1, q2⟩ := q_lst (rsv_ok E1 hx e1)
    exact ⟨a, vs, rfl, .of q1, fun p hp => den_lst h2 E1 P1 q2.reverse hp⟩
  · cases e2
/-! ### the values of a dict at a name -/
def itemsV : D → Option (List D)
  | .dic _ kvs => some (kvs.map (·.2))
  | _ => none
def evV1 (i : Nat) : Ro → Mu → Rs (List D) := fun ρ μ => (datR (.own i) ρ μ).bind fun d ρ1 μ1 => match itemsV d with
  | some xs => .ok xs ρ1 μ1
  | none => .no
theorem RepKs.vals : ∀ {vs : List (Key × V)} {ds : List (Key × D)}, RepKs g er c H ow vs ds → RepDs g er c H ow (vs.map (·.2)) (ds.map (·.2))
  | _, _, .nil => .nil
  | _, _, .cons h r => .cons h (RepKs.vals r)
theorem walks_vals {d : Addr} {ob : Obj} {vs : List (Key × V)} {ds : List (Key × D)} (h : H d = some (.frz ob (.dK vs))) (no : ¬ ow d) (hs : d ≠ g.sa ∧ d ≠ g.sb) (r : RepKs g er c H ow vs ds) (hl : OwL ow H) (hs' : SaL g H) : Walks g ow er c H (Itd d ob vs) (ds.map (·.2)) := by
  intro av' ow1 er1 c1 H1 i h1 x hw _ _ _
  have e : H1 d = some (.frz ob (.dK vs)) := x.same d _ h no hs.1 hs.2 rfl
  have r' := r.vals
  have hlen := r'.length
  rw [List.length_map] at hlen
  rw [WalkAt, ← hlen]
  refine ⟨fun z => ⟨e, z⟩, fun z => ⟨⟨e, z⟩, fun y H' q => ⟨.inl q.1, fun d' hd => ?_⟩⟩⟩
  obtain ⟨rfl, k, q1⟩ := q
  obtain ⟨v, e3, e4⟩ := r'.get hd
  rw [List.getElem?_map, q1] at e3
  cases e3
  exact e4.later h1 x hl hs' hw
theorem lc_readV {i : Nat} {x : Str} {p apos cpos : Pos} {elt : Expr} {ifs : List Expr} {scope : Scope} {vs is : List Nat} {t : D → Ro → Option Ro} {fc : Ro → Mu → Rs Bool} {fe : Ro → Mu → Rs D} (C : Cxt g bl n N sc X) (hi : N[i]? = some x) (hv : Vis sc x) (hd : (x == ("__debug__" : Str)) = false) (hcd : (x == ("__classdict__" : Str)) = false) (L : LcP g X tg ifs elt scope vs is t fc fe) {Q : VK}
    (hbase : attributeBase (.Name x p) "values" X.env (eval (.Name x p) X.env) = eval (.Name x p) X.env) (hline : (apos.endLine == cpos.line) = true)
    (E : RepEnv (g.at av) er μ.ec H ρ σ) (P : HpOk (g.at av) er H μ) (h : DenG (g.at av) W σ er H ρ μ (evLc (evV1 i) t fc fe vs ρ μ) (KN (g.at av) σ H Q)) :
    lcRd X elt tg (.Call (.Attribute (.Name x p) "values" apos) [] [] cpos) ifs scope vs σ H Q ∨ ∃ d kvs, H d = some (.dK kvs) ∧ ∀ ob, lcRd X elt tg (.Call (.Attribute (.Name x p) "values" apos) [] [] cpos) ifs scope vs σ (upd H d (.frz ob (.dK kvs))) fun v H' => H' d = some (.frz ob (.dK kvs)) ∧ Q v (upd H' d (.dK kvs)) := by
  unfold evLc evV1 datR at h
  cases e1 : fz (.own i) ρ with
  | none => rw [e1] at h; exact h.elim
  | some q =>
    obtain ⟨d', ρ1⟩ := q
    rw [e1] at h
    simp only [Rs.bind_ok] at h
    obtain ⟨v, hsl, n1, r1⟩ := slot_dat E P e1
    have h1 := DenG.nx n1 h
    cases d' with
    | dic e0 kvs =>
      simp only [itemsV, Rs.bind_ok] at h1
      split at h1
      · rename_i hn
        cases r1 with
        | dic ha he hf nd r =>
          rename_i a us
          rcases ha with ha | ⟨ob, ha⟩
          · refine .inr ⟨a, us, ha, fun ob => ?_⟩
            have l : LkR H (upd H a (.frz ob (.dK us))) := lk_upd ha
            have E2 : RepEnv (g.at av) er μ.ec (upd H a (.frz ob (.dK us))) ρ1 σ := n1.env.lk l fun b hb => by rw [upd_ne (fun z => hf.2.1 (by rw [← z]; exact hb))]
            refine .of (pi_values peR hbase hline) (vis_own C hi hv hd hcd hsl ⟨a, ob, us, rfl, upd_same, fun Dd hD => ?_⟩)
            exact lc_loop L.hG L.hc L.he L.hi hn E2 (n1.hp.lk l) (walks_vals upd_same hf.2.1 hf.2.2 (RepKs.lk l r) E2.owl (n1.hp.lk l).sal) (fun p hp => by
              by_cases z : p = a
              · rw [z, upd_same] at hp; cases hp
              · rw [upd_ne z] at hp; exact hp) (DenG.lockN ha hf.2.1 hf.2.2 (by rw [ha]; exact fun z => nomatch z) h1) Dd hD
          · left
            refine .of (pi_values peR hbase hline) (vis_own C hi hv hd hcd hsl ⟨a, ob, us, rfl, ha, fun Dd hD => ?_⟩)
            exact lc_loop L.hG L.hc L.he L.hi hn n1.env n1.hp (walks_vals ha hf.2.1 hf.2.2 r n1.env.owl n1.hp.sal) (fun p hp => hp) h1 Dd hD
      · exact h1.elim
    | _ => exact h1.elim
theorem OkN.lcV {i : Nat} {x : Str} {p apos cpos : Pos} {elt : Expr} {ifs : List Expr} {scope : Scope} {own : List (Str × Nat)} {is : List Nat} {pos : Pos} {t : D → Ro → Option Ro} {fc : Ro → Mu → Rs Bool} {fe : Ro → Mu → Rs D} (C : Cxt g bl n N sc X) (hi : N[i]? = some x) (hv : Vis sc x) (hd : (x == ("__debug__" : Str)) = false) (hcd : (x == ("__classdict__" : Str)) = false) (ok : BlkOk N sc scope own) (L : LcP g X tg ifs elt scope (own.map (·.2)) is t fc fe)
    (hbase : attributeBase (.Name x p) "values" X.env (eval (.Name x p) X.env) = eval (.Name x p) X.env := by rfl) (hline : (apos.endLine == cpos.line) = true := by rfl)
    (hs : ∀ y, foldedSetIterable (.Call (.Attribute (.Name x p) "values" apos) [] [] cpos) X.env y = pure y := by intro _; rfl) : OkN g X (.ListComp elt [⟨tg, .Call (.Attribute (.Name x p) "values" apos) [] [] cpos, ifs, 0⟩] scope pos) (evLc (evV1 i) t fc fe (own.map (·.2))) := by
  intro av W σ er H ρ μ Q tk E P h
  rcases lc_readV C hi hv hd hcd L hbase hline E P h with h | ⟨d, kvs, hdd, h⟩
  · exact .of (pe_lcU C ok hs) h
  · exact .of (pe_lock (pe_lcU C ok hs)) ⟨d, _, hdd, True.intro, h⟩
/-! ### the context of a block -/
theorem Cxt.blk {s : Shared} {H1 : Hp} {scope : Scope} {Cc : Addr} {cl : List (Str × Addr)} {fp : List Addr} (C : Cxt g bl n N sc X) : Cxt g bl n N (relS scope sc) (X.blk s H1 scope (compEnvC scope cl Cc X.env) fp) :=
  ⟨C.hK, C.hm, C.hN, by rw [← C.hsc]; rfl, C.calm, C.room, C.nd, C.hbl⟩
theorem Cxt.tr {pn : List (Addr × Obj)} {xe : Value → Shared → Prop} (C : Cxt g bl n N sc X) : Cxt g bl n N sc (X.tr pn xe) := ⟨C.hK, C.hm, C.hN, C.hsc, C.calm, C.room, C.nd, C.hbl⟩
theorem CxS.tr {pn : List (Addr × Obj)} {xe : Value → Shared → Prop} (S : CxS X) (h : PassesOwn (model X.prog X.w) X.A X.env xe) : CxS (X.tr pn xe) := ⟨S.fn, h⟩
end
end GW

set_option maxHeartbeats 2000000
namespace GW
open PySem PySem.Spec PyProof.Rows L2
/-! ### the draws' state -/
section
variable {g : Gd} {X : Cx} {W : WX} {σ : St} {er : Er} {H H2 : Hp} {ρ : Ro} {μ : Mu} {c : Nat} {ow ow' : Addr → Prop} {av : Addr → Prop} {bl : List Str} {n : Nat} {N : List Str} {sc : Scope} {α β : Type} {tg iter : Expr}
def stV (k : Nat) (μ : Mu) : Option Int := match k with
  | 1 => some μ.big
  | 2 => some μ.cnt
  | 3 => some μ.seed
  | _ => none
def isSta (ρ : Ro) (i : Nat) : Bool := match ρ[i]? with
  | some (.val .sta) => true
  | _ => false
theorem sta_at {i : Nat} (E : RepEnv g er c H ρ σ) (h : isSta ρ i = true) : σ[i]? = some (some (.ref g.sa)) := by
  unfold isSta at h
  split at h
  · rename_i q
    obtain ⟨v, h1, h2⟩ := E.val i _ q
    cases h2 with
    | d h => cases h
    | sta => exact h1
  · cases h
def evStG (i k : Nat) : Ro → Mu → Rs D := fun ρ μ => if isSta ρ i then match stV k μ with
    | some z => .ok (.int z) ρ μ
    | none => .no
  else .no
theorem OkE.stG {i k : Nat} {x : Str} {np kp pos : Pos} {j : Nat} (C : Cxt g bl n N sc X) (hi : N[i]? = some x) (hv : Vis sc x) (hd : (x == ("__debug__" : Str)) = false) (hcd : (x == ("__classdict__" : Str)) = false) (hs : PlainIx (.Constant (.int k) j kp)) : OkE g X (.Subscript (.Name x np) (.Constant (.int k) j kp) pos) (evStG i k) := by
  intro av W σ er H ρ μ Q tk E P h
  unfold evStG at h
  split at h
  · rename_i hst
    have hsl := sta_at E hst
    refine .of (pe_ix (ix_list (X := X)) peR pe_int hs) (vis_own C hi hv hd hcd hsl ?_)
    cases e : stV k μ with
    | none => rw [e] at h; exact h.elim
    | some z =>
      rw [e] at h
      refine ⟨g.sa, _, k, .int z, rfl, rfl, .of P.sa, ?_, den_d h E P (.int z)⟩
      unfold stV at e
      split at e <;> cases e
      · exact atI_nat (xs := [V.ref g.sb, .int μ.big, .int μ.cnt, .int μ.seed]) (j := 1) rfl
      · exact atI_nat (xs := [V.ref g.sb, .int μ.big, .int μ.cnt, .int μ.seed]) (j := 2) rfl
      · exact atI_nat (xs := [V.ref g.sb, .int μ.big, .int μ.cnt, .int μ.seed]) (j := 3) rfl
  · exact h.elim
def stS (k : Nat) (z : Int) (μ : Mu) : Mu := match k with
  | 1 => { μ with big := z }
  | 2 => { μ with cnt := z }
  | 3 => { μ with seed := z }
  | _ => μ
def bigB : Int := 2 ^ 1048576
def stOk (k : Nat) (z : Int) : Bool := match k with
  | 1 => decide (0 ≤ z) && decide (z < bigB)
  | 2 => decide (0 ≤ z) && decide (z < 2 ^ 40)
  | 3 => decide (0 ≤ z) && decide (z < 2 ^ 31)
  | _ => false
theorem stS_ok {k : Nat} {z : Int} (m : MuOk μ) (h : stOk k z = true) : MuOk (stS k z μ) := by
  unfold stOk at h
  split at h
  · rw [Bool.and_eq_true] at h
    exact ⟨m.n, m.bits, of_decide_eq_true h.1, of_decide_eq_true h.2, m.c0, m.c1, m.s0, m.s1⟩
  · rw [Bool.and_eq_true] at h
    exact ⟨m.n, m.bits, m.b0, m.b1, of_decide_eq_true h.1, of_decide_eq_true h.2, m.s0, m.s1⟩
  · rw [Bool.and_eq_true] at h
    exact ⟨m.n, m.bits, m.b0, m.b1, m.c0, m.c1, of_decide_eq_true h.1, of_decide_eq_true h.2⟩
  · cases h
/-- the draws' lists are written -/
theorem nx_sta {μ' : Mu} {a : Addr} {vs : List V} (E : RepEnv g er μ.ec H ρ σ) (P : HpOk g er H μ) (ha : a = g.sa ∨ a = g.sb) (he : μ'.ec = μ.ec) (h1 : upd H a (.lst vs) g.sa = some (.lst [.ref g.sb, .int μ'.big, .int μ'.cnt, .int μ'.seed])) (h2 : upd H a (.lst vs) g.sb = some (.lst (μ'.cells.map V.int))) (m : MuOk μ') : Nx g σ er H ρ μ er (upd H a (.lst vs)) ρ μ' := by
  have hA : ∃ us, H a = some (.lst us) := ha.elim (fun e => ⟨_, by rw [e]; exact P.sa⟩) fun e => ⟨_, by rw [e]; exact P.sb⟩
  obtain ⟨us, hA⟩ := hA
  have ne : ∀ b, b ≠ g.sa → b ≠ g.sb → b ≠ a := fun b n1 n2 z => ha.elim (fun e => n1 (z.trans e)) fun e => n2 (z.trans e)
  have x : Ext g (Ow ρ σ) er μ.ec H er μ'.ec (upd H a (.lst vs)) := ⟨fun b o h _ n2 n3 _ => by rw [upd_ne (ne b n2 n3)]; exact h, fun b h => upd_some b h, fun _ _ => rfl, by rw [he]; exact Nat.le_refl _, fun _ _ _ h1 h2 => by rw [he] at h2; exact absurd (Nat.lt_of_lt_of_le h1 h2) (Nat.lt_irrefl _), fun b o' u h => by
    by_cases e : b = a
    · rw [e, upd_same] at h; cases h
    · rw [upd_ne e] at h; exact h⟩
  refine ⟨x, ⟨E.len, fun i d h => ?_, fun i e xs h => ?_, fun i e xs h => ?_, E.inj⟩, ⟨h1, h2, P.ne, m, fun b h => upd_some b (P.er b (by rw [← he]; exact h)), tabs_mut P.tabs hA (.inl ⟨_, rfl⟩), fun b h => upd_some b (P.av b h), P.nav⟩, fun b h => .inl h⟩
  · obtain ⟨v, q1, q2⟩ := E.val i d h
    exact ⟨v, q1, RepV.ext x E.owl P.sal (fun _ => .inl) q2⟩
  · obtain ⟨b, us, q1, q2, q3, q4, q5, q6⟩ := E.ol i e xs h
    exact ⟨b, us, q1, by rw [upd_ne (ne b q6.1 q6.2)]; exact q2, q3.ext x (by rw [q2]; exact fun z => nomatch z), RepDs.ext x E.owl P.sal (fun _ => .inl) q4, q5, q6⟩
  · obtain ⟨b, us, q1, q2, q3, q3', q4, q5, q6⟩ := E.od i e xs h
    exact ⟨b, us, q1, by rw [upd_ne (ne b q6.1 q6.2)]; exact q2, q3.ext x (by rw [q2]; exact fun z => nomatch z), q3', RepKs.ext x E.owl P.sal (fun _ => .inl) q4, q5, q6⟩
def sStS (i k : Nat) (f : Ro → Mu → Rs D) : Ro → Mu → Rs Fl := fun ρ μ => (f ρ μ).bind fun d ρ1 μ1 => match d with
  | .int z => if isSta ρ1 i && stOk k z then .ok .nx ρ1 (stS k z μ1) else .no
  | _ => .no
theorem OkS.stS {i k : Nat} {x : Str} {np kp p2 pos : Pos} {j : Nat} {e : Expr} {f : Ro → Mu → Rs D} (C : Cxt g bl n N sc X) (hi : N[i]? = some x) (hv : Vis sc x) (hd : (x == ("__debug__" : Str)) = false) (hcd : (x == ("__classdict__" : Str)) = false) (O : OkE g X e f)
    (ha : ∀ v, assign (.Subscript (.Name x np) (.Constant (.int k) j kp) p2) X.env v = (do
      let ov ← holding [v] (eval (.Name x np) X.env)
      let iv ← holding [v, ov] (eval (.Constant (.int k) j kp) X.env)
      standAt p2
      holding [v, ov, iv] (setItem ov iv v)
      release [v, ov, iv] []) := by intro _; rfl)
    (hs : swapsWithSole [.Subscript (.Name x np) (.Constant (.int k) j kp) p2] e pos.line X.env = pure false := by rfl) (hw : swappedStores [.Subscript (.Name x np) (.Constant (.int k) j kp) p2] e X.env = pure none := by rfl)
    (h1 : (assignEach [.Subscript (.Name x np) (.Constant (.int k) j kp) p2] X.env).map (·.2) = [assign (.Subscript (.Name x np) (.Constant (.int k) j kp) p2) X.env] := by rfl) : OkS g X (.Assign [.Subscript (.Name x np) (.Constant (.int k) j kp) p2] e pos) (sStS i k f) := by
  intro av W σ er H ρ μ Z tk E P h
  refine .of (ps_asg peR (pg_sub peR pe_int set_list ha) hs hw h1) (runES O tk E P h fun d ρ1 μ1 v H1 er1 E1 P1 r1 h1 => ?_)
  cases d with
  | int z =>
    simp only at h1
    split at h1
    · rename_i hz
      rw [Bool.and_eq_true] at hz
      cases o_int r1
      have hsl := sta_at E1 hz.1
      refine vis_own C hi hv hd hcd hsl ?_
      have hk : k = 1 ∨ k = 2 ∨ k = 3 := by
        have := hz.2
        unfold stOk at this
        split at this
        · exact .inl rfl
        · exact .inr (.inl rfl)
        · exact .inr (.inr rfl)
        · cases this
      have hx : ∃ jx, ixN [V.ref g.sb, .int μ1.big, .int μ1.cnt, .int μ1.seed].length (k : Int) = some jx ∧ ([V.ref g.sb, .int μ1.big, .int μ1.cnt, .int μ1.seed] : List V).set jx (.int z) = [V.ref g.sb, .int (GW.stS k z μ1).big, .int (GW.stS k z μ1).cnt, .int (GW.stS k z μ1).seed] := by
        rcases hk with rfl | rfl | rfl
        · exact ⟨1, (by show ixN 4 1 = some 1; decide), rfl⟩
        · exact ⟨2, (by show ixN 4 2 = some 2; decide), rfl⟩
        · exact ⟨3, (by show ixN 4 3 = some 3; decide), rfl⟩
      obtain ⟨jx, x1, x2⟩ := hx
      refine ⟨g.sa, _, k, jx, rfl, rfl, P1.sa, x1, ?_⟩
      rw [x2]
      have ec : (GW.stS k z μ1).ec = μ1.ec ∧ (GW.stS k z μ1).cells = μ1.cells := by rcases hk with rfl | rfl | rfl <;> exact ⟨rfl, rfl⟩
      exact h1 σ _ er1 (nx_sta (a := g.sa) E1 P1 (.inl rfl) ec.1 upd_same (by rw [upd_ne (Ne.symm P1.ne), ec.2]; exact P1.sb) (stS_ok P1.mu hz.2)).s
    · exact h1.elim
  | _ => exact h1.elim
def evStP (i : Nat) : Ro → Mu → Rs D := fun ρ μ => if isSta ρ i then match μ.cells with
    | z :: r => .ok (.int z) ρ { μ with cells := r }
    | [] => .no
  else .no
theorem plain0 {j : Nat} {kp : Pos} : PlainIx (.Constant (.int 0) j kp) := by intro o i; rfl
/-- state[0].pop(0) -/
theorem OkE.stP {i : Nat} {x : Str} {np kp ap p2 zp cp : Pos} {j jz : Nat} (C : Cxt g bl n N sc X) (hi : N[i]? = some x) (hv : Vis sc x) (hd : (x == ("__debug__" : Str)) = false) (hcd : (x == ("__classdict__" : Str)) = false)
    (hbase : attributeBase (.Subscript (.Name x np) (.Constant (.int 0) j kp) p2) "pop" X.env (eval (.Subscript (.Name x np) (.Constant (.int 0) j kp) p2) X.env) = eval (.Subscript (.Name x np) (.Constant (.int 0) j kp) p2) X.env := by rfl) (hline : (ap.endLine == cp.line) = true := by rfl) :
    OkE g X (.Call (.Attribute (.Subscript (.Name x np) (.Constant (.int 0) j kp) p2) "pop" ap) [.Constant (.int 0) jz zp] [] cp) (evStP i) := by
  intro av W σ er H ρ μ Q tk E P h
  unfold evStP at h
  split at h
  · rename_i hst
    have hsl := sta_at E hst
    cases e : μ.cells with
    | nil => rw [e] at h; exact h.elim
    | cons z r =>
      rw [e] at h
      refine .of (pe_bm PySem.F.plainAttrs_list PySem.F.slot_list_pop PySem.F.type_list_pop mt_popAt (pe_ix (ix_list (X := X)) peR pe_int plain0) (pa_cons pe_int pa_nil) hbase (by rfl) hline) (vis_own C hi hv hd hcd hsl ?_)
      refine ⟨g.sa, _, 0, .ref g.sb, rfl, rfl, .of P.sa, atI_nat (xs := [V.ref g.sb, .int μ.big, .int μ.cnt, .int μ.seed]) (j := 0) rfl, .inl ⟨rfl, _, .of P.sb⟩, ?_⟩
      have m : MuOk { μ with cells := r } := ⟨by have := P.mu.n; rw [e, List.length_cons] at this; exact Nat.le_of_succ_le this, fun y hy => P.mu.bits y (by rw [e]; exact List.mem_cons_of_mem _ hy), P.mu.b0, P.mu.b1, P.mu.c0, P.mu.c1, P.mu.s0, P.mu.s1⟩
      have nx : Nx (g.at av) σ er H ρ μ er (upd H g.sb (.lst (r.map V.int))) ρ { μ with cells := r } := nx_sta (a := g.sb) E P (.inr rfl) rfl (by rw [upd_ne P.ne]; exact P.sa) upd_same m
      refine ⟨g.sb, _, 0, 0, .int z, rfl, rfl, P.sb, by decide, by decide, ?_, by rw [e]; rfl, ?_⟩
      · rw [e]; exact seqIndex_of (by decide) (by simp)
      · rw [e]
        exact h.toG.ok' nx _ (.d (.int z))
  · exact h.elim
def evStN (i : Nat) : Ro → Mu → Rs Bool := fun ρ μ => if isSta ρ i then match opCmp .NotEq (.lst 0 (μ.cells.map D.int)) (.lst 0 []) with
    | some b => .ok b ρ μ
    | none => .no
  else .no
/-- state[0] != [] -/
theorem OkT.stN {i : Nat} {x : Str} {np kp p2 lp cp : Pos} {j : Nat} (C : Cxt g bl n N sc X) (hi : N[i]? = some x) (hv : Vis sc x) (hd : (x == ("__debug__" : Str)) = false) (hcd : (x == ("__classdict__" : Str)) = false) :
    OkT g X (.Compare (.Subscript (.Name x np) (.Constant (.int 0) j kp) p2) [.NotEq] [.List [] lp] cp) (evStN i) := by
  intro av W σ er H ρ μ Q tk E P h
  unfold evStN at h
  split at h
  · rename_i hst
    have hsl := sta_at E hst
    refine .of (pt_cmpR (r := RunO X (compareOp .NotEq)) opR (pe_ix (ix_list (X := X)) peR pe_int plain0) (pe_lst pa_nil) (by rfl)) (vis_own C hi hv hd hcd hsl ?_)
    refine ⟨g.sa, _, 0, .ref g.sb, rfl, rfl, .of P.sa, atI_nat (xs := [V.ref g.sb, .int μ.big, .int μ.cnt, .int μ.seed]) (j := 0) rfl, ?_⟩
    refine ⟨by simp, fun p hp => ?_⟩
    cases e : opCmp .NotEq (.lst 0 (μ.cells.map D.int)) (.lst 0 []) with
    | none => rw [e] at h; exact h.elim
    | some b =>
      rw [e] at h
      have nx := nx_new (o := .lst []) E P hp
      have q1 : RepQ (g.at av) er μ.ec (upd H p (.lst [])) (Ow ρ σ) (.ref g.sb) (.lst 0 (μ.cells.map D.int)) := .lst nx.hp.sb (reps_ints _)
      have q2 : RepQ (g.at av) er μ.ec (upd H p (.lst [])) (Ow ρ σ) (.ref p) (.lst 0 []) := .lst upd_same .nil
      exact cmp_ok (g := g.at av) C.hK C.hu q1 q2 e ⟨b, rfl, h _ er nx⟩
  · exact h.elim
end
end GW

set_option maxHeartbeats 2000000
namespace GW
open PySem PySem.Spec PyProof.Rows L2
/-! ### blocks judged from an earlier state; what is spoilt came after it -/
mutual
/-- all nodes are of era k or before -/
def oldD (k : Nat) : D → Bool
  | .non | .bl _ | .int _ | .str _ | .fn _ | .sta | .own _ | .any _ | .exc _ _ => true
  | .lab _ d => oldD k d
  | .tup xs => oldDs k xs
  | .lst e xs => decide (e ≤ k) && oldDs k xs
  | .dic e kvs => decide (e ≤ k) && oldKs k kvs
  | .clo _ ws => oldDs k ws
def oldDs (k : Nat) : List D → Bool
  | [] => true
  | d :: ds => oldD k d && oldDs k ds
def oldKs (k : Nat) : List (Key × D) → Bool
  | [] => true
  | (_, d) :: ds => oldD k d && oldKs k ds
end
theorem old_lst {k e : Nat} {xs : List D} (h : oldD k (.lst e xs) = true) : e ≤ k ∧ oldDs k xs = true := by simpa [oldD] using h
theorem old_dic {k e : Nat} {xs : List (Key × D)} (h : oldD k (.dic e xs) = true) : e ≤ k ∧ oldKs k xs = true := by simpa [oldD] using h
theorem old_cons {k : Nat} {d : D} {xs : List D} (h : oldDs k (d :: xs) = true) : oldD k d = true ∧ oldDs k xs = true := by simpa [oldDs] using h
theorem old_kcons {k : Nat} {y : Key} {d : D} {xs : List (Key × D)} (h : oldKs k ((y, d) :: xs) = true) : oldD k d = true ∧ oldKs k xs = true := by simpa [oldKs] using h
section
variable {g : Gd} {X : Cx} {W : WX} {σ : St} {er : Er} {H H2 : Hp} {ρ : Ro} {μ : Mu} {c : Nat} {ow ow' P : Addr → Prop} {av : Addr → Prop} {bl : List Str} {n : Nat} {N : List Str} {sc : Scope} {α β : Type} {tg iter : Expr}
/-- of these some era that came after k says that they were not there -/
def Late (er : Er) (c k : Nat) (P : Addr → Prop) : Prop := ∀ a, P a → ∃ e, k < e ∧ e ≤ c ∧ ¬ er e a
theorem Free.old {k e : Nat} {a : Addr} (L : Late er c k P) (he : EraOk er c e a) (ho : e ≤ k) (f : Free g ow a) : Free g (fun b => ow b ∨ P b) a :=
  ⟨f.1, fun z => z.elim f.2.1 fun z => let ⟨e', h1, h2, h3⟩ := L a z; h3 (he.2.2 e' (Nat.lt_of_le_of_lt ho h1) h2), f.2.2⟩
mutual
theorem RepD.old {k : Nat} (L : Late er c k P) : ∀ {v : V} {d : D}, RepD g er c H ow v d → oldD k d = true → RepD g er c H (fun b => ow b ∨ P b) v d
  | _, _, .non, _ => .non
  | _, _, .bl b, _ => .bl b
  | _, _, .int i, _ => .int i
  | _, _, .str s, _ => .str s
  | _, _, .tup h r, o => .tup h (RepDs.old L r (by simpa [oldD] using o))
  | _, _, .lst h he hf r, o => .lst h he (hf.old L he (old_lst o).1) (RepDs.old L r (old_lst o).2)
  | _, _, .dic h he hf nd r, o => .dic h he (hf.old L he (old_dic o).1) nd (RepKs.old L r (old_dic o).2)
  | _, _, .fn h hx, _ => .fn h hx
  | _, _, .any v, _ => .any v
  | _, _, .lab h, o => .lab (RepD.old L h (by simpa [oldD] using o))
  | _, _, .exc hx h hp hd, _ => .exc hx h hp hd
theorem RepDs.old {k : Nat} (L : Late er c k P) : ∀ {vs : List V} {ds : List D}, RepDs g er c H ow vs ds → oldDs k ds = true → RepDs g er c H (fun b => ow b ∨ P b) vs ds
  | _, _, .nil, _ => .nil
  | _, _, .cons h r, o => .cons (RepD.old L h (old_cons o).1) (RepDs.old L r (old_cons o).2)
theorem RepKs.old {k : Nat} (L : Late er c k P) : ∀ {vs : List (Key × V)} {ds : List (Key × D)}, RepKs g er c H ow vs ds → oldKs k ds = true → RepKs g er c H (fun b => ow b ∨ P b) vs ds
  | _, _, .nil, _ => .nil
  | _, _, .cons h r, o => .cons (RepD.old L h (old_kcons o).1) (RepKs.old L r (old_kcons o).2)
end
mutual
theorem RepV.old {k : Nat} (L : Late er c k P) : ∀ {H : Hp} {v : V} {d : D}, RepV g er c ow H v d → oldD k d = true → RepV g er c (fun b => ow b ∨ P b) H v d
  | _, _, _, .d h, o => .d (RepD.old L h o)
  | _, _, _, .sta, _ => .sta
  | _, _, _, .clo hL hj hf hc ha hv r, o => .clo hL hj hf hc ha hv (RepVs.old L r (by simpa [oldD] using o))
theorem RepVs.old {k : Nat} (L : Late er c k P) : ∀ {H : Hp} {vs : List V} {ds : List D}, RepVs g er c ow H vs ds → oldDs k ds = true → RepVs g er c (fun b => ow b ∨ P b) H vs ds
  | _, _, _, .nil, _ => .nil
  | _, _, _, .cons h r, o => .cons (RepV.old L h (old_cons o).1) (RepVs.old L r (old_cons o).2)
end
/-- only lists and dicts of P changed -/
structure SpX (P : Addr → Prop) (H H' : Hp) : Prop where
  same : ∀ a o, H a = some o → ¬ P a → H' a = some o
  dom : ∀ a, H a ≠ none → H' a ≠ none
  nfz : ∀ a o u, H' a = some (.frz o u) → H a = some (.frz o u)
theorem SpX.refl : SpX P H H := ⟨fun _ _ h _ => h, fun _ h => h, fun _ _ _ h => h⟩
theorem SpX.trans {H1 H2 : Hp} (a : SpX P H H1) (b : SpX P H1 H2) : SpX P H H2 :=
  ⟨fun x o h n => b.same x o (a.same x o h n) n, fun x h => b.dom x (a.dom x h), fun x o u h => a.nfz x o u (b.nfz x o u h)⟩
theorem SpX.ext {H' : Hp} (s : SpX P H H') : Ext g (fun b => ow b ∨ P b) er c H er c H' :=
  ⟨fun a o h n1 _ _ _ => s.same a o h fun z => n1 (.inr z), s.dom, fun _ _ => rfl, Nat.le_refl _, fun _ _ _ h1 h2 => absurd (Nat.lt_of_lt_of_le h1 h2) (Nat.lt_irrefl _), s.nfz⟩
/-- what may be spoilt: lists and dicts that stand, nobody's own, not the draws -/
structure SpOk (g : Gd) (er : Er) (c k : Nat) (ow : Addr → Prop) (H : Hp) (P : Addr → Prop) : Prop where
  late : Late er c k P
  ld : ∀ a, P a → (∃ vs, H a = some (.lst vs)) ∨ ∃ vs, H a = some (.dK vs)
  fr : ∀ a, P a → Free g ow a
theorem SpOk.owl (S : SpOk g er c 0 ow H P ∨ ∃ k, SpOk g er c k ow H P) (hl : OwL ow H) : OwL (fun b => ow b ∨ P b) H := fun a z => z.elim (hl a) fun z => S.elim (fun S => S.ld a z) fun ⟨_, S⟩ => S.ld a z
/-- slots whose trees are older stay -/
def keepS (k : Nat) : SV → SV
  | .un => .un
  | .val d => if oldD k d then .val d else .un
  | .ol e xs => if oldDs k xs then .ol e xs else .un
  | .od e xs => if oldKs k xs then .od e xs else .un
def keepR (k : Nat) (ρ : Ro) : Ro := ρ.map (keepS k)
theorem keepR_get {k i : Nat} {sv : SV} (h : (keepR k ρ)[i]? = some sv) : ∃ s, ρ[i]? = some s ∧ keepS k s = sv := by
  unfold keepR at h
  rw [List.getElem?_map] at h
  exact Option.map_eq_some_iff.mp h
theorem keepR_val {k i : Nat} {d : D} (h : (keepR k ρ)[i]? = some (.val d)) : ρ[i]? = some (.val d) ∧ oldD k d = true := by
  obtain ⟨s, h1, h2⟩ := keepR_get h
  cases s <;> simp only [keepS] at h2
  · cases h2
  · split at h2
    · rename_i q; cases h2; exact ⟨h1, q⟩
    · cases h2
  · split at h2 <;> cases h2
  · split at h2 <;> cases h2
theorem keepR_ol {k i e : Nat} {xs : List D} (h : (keepR k ρ)[i]? = some (.ol e xs)) : ρ[i]? = some (.ol e xs) ∧ oldDs k xs = true := by
  obtain ⟨s, h1, h2⟩ := keepR_get h
  cases s <;> simp only [keepS] at h2
  · cases h2
  · split at h2 <;> cases h2
  · split at h2
    · rename_i q; cases h2; exact ⟨h1, q⟩
    · cases h2
  · split at h2 <;> cases h2
theorem keepR_od {k i e : Nat} {xs : List (Key × D)} (h : (keepR k ρ)[i]? = some (.od e xs)) : ρ[i]? = some (.od e xs) ∧ oldKs k xs = true := by
  obtain ⟨s, h1, h2⟩ := keepR_get h
  cases s <;> simp only [keepS] at h2
  · cases h2
  · split at h2 <;> cases h2
  · split at h2 <;> cases h2
  · split at h2
    · rename_i q; cases h2; exact ⟨h1, q⟩
    · cases h2
theorem keepR_ow {k i : Nat} (h : isOw (keepR k ρ) i) : isOw ρ i := by
  rcases h with ⟨e, xs, q⟩ | ⟨e, xs, q⟩
  · exact .inl ⟨e, xs, (keepR_ol q).1⟩
  · exact .inr ⟨e, xs, (keepR_od q).1⟩
theorem keepR_Ow {k : Nat} {a : Addr} (h : Ow (keepR k ρ) σ a) : Ow ρ σ a := let ⟨i, h1, h2⟩ := h; ⟨i, keepR_ow h1, h2⟩
/-- after the spoiling -/
theorem env_spoil {k : Nat} {H' : Hp} (E : RepEnv g er c H ρ σ) (hs : SaL g H) (S : SpOk g er c k (Ow ρ σ) H P) (x : SpX P H H') : RepEnv g er c H' (keepR k ρ) σ := by
  have xe : Ext g (fun b => Ow ρ σ b ∨ P b) er c H er c H' := x.ext
  have ol : OwL (fun b => Ow ρ σ b ∨ P b) H := SpOk.owl (.inr ⟨_, S⟩) E.owl
  have hw : ∀ a, Ow (keepR k ρ) σ a → (fun b => Ow ρ σ b ∨ P b) a ∨ H a = none := fun a z => .inl (.inl (keepR_Ow z))
  have np : ∀ a, Ow ρ σ a → ¬ P a := fun a h z => (S.fr a z).2.1 h
  refine ⟨by rw [keepR, List.length_map]; exact E.len, fun i d h => ?_, fun i e xs h => ?_, fun i e xs h => ?_, fun i j a h1 h2 => E.inj i j a (keepR_ow h1) (keepR_ow h2)⟩
  · obtain ⟨h1, h2⟩ := keepR_val h
    obtain ⟨v, q1, q2⟩ := E.val i d h1
    exact ⟨v, q1, RepV.ext xe ol hs hw (RepV.old S.late q2 h2)⟩
  · obtain ⟨h1, h2⟩ := keepR_ol h
    obtain ⟨a, vs, q1, q2, q3, q4, q5⟩ := E.ol i e xs h1
    exact ⟨a, vs, q1, x.same a _ q2 (np a ⟨i, .inl ⟨_, _, h1⟩, q1⟩), q3, RepDs.ext xe ol hs hw (RepDs.old S.late q4 h2), q5⟩
  · obtain ⟨h1, h2⟩ := keepR_od h
    obtain ⟨a, vs, q1, q2, q3, q4, q4', q5⟩ := E.od i e xs h1
    exact ⟨a, vs, q1, x.same a _ q2 (np a ⟨i, .inr ⟨_, _, h1⟩, q1⟩), q3, q4, RepKs.ext xe ol hs hw (RepKs.old S.late q4' h2), q5⟩
end
end GW

set_option maxHeartbeats 2000000
namespace GW
open PySem PySem.Spec PyProof.Rows L2
section
variable {g : Gd} {X : Cx} {W : WX} {σ σ0 : St} {er er0 : Er} {H H0 H2 : Hp} {ρ ρ0 : Ro} {μ μ0 : Mu} {c : Nat} {ow ow' P : Addr → Prop} {av : Addr → Prop} {bl : List Str} {n : Nat} {N : List Str} {sc : Scope} {α β : Type} {tg iter : Expr}
theorem SpOk.tabs {k : Nat} {T : List (Addr × Str)} {H' : Hp} (S : SpOk g er c k ow H P) (x : SpX P H H') (h : LamX.Tabs T H) : LamX.Tabs T H' := by
  have np : ∀ a o, H a = some o → (∀ vs, o ≠ .lst vs) → (∀ vs, o ≠ HO.dK vs) → ¬ P a := fun a o e n1 n2 z => by
    rcases S.ld a z with ⟨vs, q⟩ | ⟨vs, q⟩
    · rw [e] at q; exact n1 _ (Option.some.inj q)
    · rw [e] at q; exact n2 _ (Option.some.inj q)
  intro p hp
  obtain ⟨ps, h1, h2, h3⟩ := h p hp
  refine ⟨ps, x.same _ _ h1 (np _ _ h1 (fun _ z => nomatch z) fun _ z => nomatch z), h2, fun pos cv e => ?_⟩
  obtain ⟨c', e1, e2⟩ := h3 pos cv e
  exact ⟨c', e1, x.same _ _ e2 (np _ _ e2 (fun _ z => by unfold LamX.CodeO at z; cases z) fun _ z => by unfold LamX.CodeO at z; cases z)⟩
theorem SpOk.hp {k : Nat} {H' : Hp} (S : SpOk g er c k ow H P) (x : SpX P H H') (p : HpOk g er H μ) : HpOk g er H' μ :=
  ⟨x.same _ _ p.sa fun z => (S.fr _ z).2.2.1 rfl, x.same _ _ p.sb fun z => (S.fr _ z).2.2.2 rfl, p.ne, p.mu, fun a h => x.dom a (p.er a h), S.tabs x p.tabs, fun a h => x.dom a (p.av a h), p.nav⟩
/-- what came after the anchor may be spoilt -/
theorem nxs_spoil {H' : Hp} (m : NxS g σ0 er0 H0 ρ0 μ0 σ er H ρ μ) (S : SpOk g er μ.ec μ0.ec (Ow ρ σ) H P) (x : SpX P H H') : NxS g σ0 er0 H0 ρ0 μ0 σ er H' (keepR μ0.ec ρ) μ where
  x := ⟨fun a o h n1 n2 n3 t => x.same a o (m.x.same a o h n1 n2 n3 t) fun z => by
      obtain ⟨e, h1, h2, h3⟩ := S.late a z
      exact h3 (m.x.new a e (by rw [h]; exact fun z => nomatch z) h1 h2),
    fun a h => x.dom a (m.x.dom a h), m.x.ere, m.x.cc, m.x.new, fun a o u h => m.x.nfz a o u (x.nfz a o u h)⟩
  env := env_spoil m.env m.hp.sal S x
  hp := S.hp x m.hp
  ow := fun a h => m.ow a (keepR_Ow h)
/-! ### anchored blocks -/
def OkAS (g : Gd) (X : Cx) (st : List Stmt) (f : Nat → Ro → Mu → Rs Fl) : Prop := ∀ (av : Addr → Prop) (W : WX) (σ0 : St) (er0 : Er) (H0 : Hp) (ρ0 : Ro) (μ0 : Mu) (σ : St) (er : Er) (H : Hp) (ρ : Ro) (μ : Mu) (Z : Ends), Takes X W →
  NxS (g.at av) σ0 er0 H0 ρ0 μ0 σ er H ρ μ → DenS (g.at av) W σ0 er0 H0 ρ0 μ0 (f μ0.ec ρ μ) Z → RunSs X st Z σ H
theorem OkAS.of {st : List Stmt} {f : Ro → Mu → Rs Fl} (O : OkSs g X st f) : OkAS g X st (fun _ => f) :=
  fun av W σ0 er0 H0 ρ0 μ0 σ er H ρ μ Z tk m h => O av W σ er H ρ μ Z tk m.env m.hp (DenS.nxs m h)
theorem OkAS.cons {s : Stmt} {st : List Stmt} {f : Ro → Mu → Rs Fl} {r : Nat → Ro → Mu → Rs Fl} (O : OkS g X s f) (R : OkAS g X st r) : OkAS g X (s :: st) (fun k => sCons f (r k)) := by
  intro av W σ0 er0 H0 ρ0 μ0 σ er H ρ μ Z tk m h
  refine .of (pss_cons psR pssR) (O av W σ er H ρ μ { Z with nx := RunSs X st Z } tk m.env m.hp ?_)
  have h : DenS (g.at av) W σ0 er0 H0 ρ0 μ0 (sCons f (r μ0.ec) ρ μ) Z := h
  unfold sCons at h
  cases e : f ρ μ with
  | ok o ρ1 μ1 =>
    rw [e] at h
    cases o with
    | nx => exact fun σ1 H1 er1 m1 => R av W σ0 er0 H0 ρ0 μ0 σ1 er1 H1 ρ1 μ1 Z tk (m.trans m1) h
    | rt d => exact fun v σ' H' er' m1 q => h v σ' H' er' (m.trans m1) q
  | ex x fs ρ' μ' => rw [e] at h; exact fun cls dd σ' H' er' m1 q => h cls dd σ' H' er' (m.trans m1) q
  | no => rw [e] at h; exact h
theorem OkAS.fin {st : List Stmt} {f : Nat → Ro → Mu → Rs Fl} (O : OkAS g X st f) : OkSs g X st (fun ρ μ => f μ.ec ρ μ) :=
  fun av W σ er H ρ μ Z tk E p h => O av W σ er H ρ μ σ er H ρ μ Z tk (.refl E p) h
/-! ### what is spoilt, as the walk sees it -/
mutual
inductive SpD (K : PySem.W.Frag) (C : Hp) (P : Addr → Prop) : Nat → V → Nat → Prop
  | non {n : Nat} : SpD K C P n .non 0
  | bl {n : Nat} (b : Bool) : SpD K C P n (.bl b) 0
  | int {n : Nat} (i : Int) : SpD K C P n (.int i) 0
  | str {n : Nat} (s : Str) : SpD K C P n (.str s) 0
  | tup {n w : Nat} {a : Addr} {vs : List V} (h : SqT K C a vs) (r : SpDs K C P n vs w) : SpD K C P (n + 1) (.ref a) w
  | lst {n w : Nat} {a : Addr} {vs : List V} (h : C a = some (.lst vs)) (p : P a) (hl : vs.length < 2 ^ 20) (r : SpDs K C P n vs w) : SpD K C P (n + 1) (.ref a) (w + 1)
  | dic {n w : Nat} {a : Addr} {vs : List (Key × V)} (h : C a = some (.dK vs)) (p : P a) (nd : (vs.map (·.1)).Nodup) (hl : vs.length < 2 ^ 20) (r : SpDs K C P n (vs.map (·.2)) w) : SpD K C P (n + 1) (.ref a) (w + 1)
inductive SpDs (K : PySem.W.Frag) (C : Hp) (P : Addr → Prop) : Nat → List V → Nat → Prop
  | nil {n : Nat} : SpDs K C P n [] 0
  | cons {n w w' : Nat} {v : V} {vs : List V} (h : SpD K C P n v w) (r : SpDs K C P n vs w') : SpDs K C P n (v :: vs) (w + w')
end
mutual
/-- all lists and dicts are of an era after k; no functions -/
def newD (k : Nat) : D → Bool
  | .non | .bl _ | .int _ | .str _ => true
  | .fn _ | .sta | .own _ | .clo _ _ | .any _ | .lab _ _ | .exc _ _ => false
  | .tup xs => newDs k xs
  | .lst e xs => decide (k < e) && decide (xs.length < 2 ^ 20) && newDs k xs
  | .dic e kvs => decide (k < e) && decide (kvs.length < 2 ^ 20) && newKs k kvs
def newDs (k : Nat) : List D → Bool
  | [] => true
  | d :: ds => newD k d && newDs k ds
def newKs (k : Nat) : List (Key × D) → Bool
  | [] => true
  | (_, d) :: ds => newD k d && newKs k ds
end
mutual
/-- how deep, at most n? -/
def depD (n : Nat) : D → Bool
  | .non | .bl _ | .int _ | .str _ | .fn _ | .sta | .own _ | .clo _ _ | .any _ | .lab _ _ | .exc _ _ => true
  | .tup xs => match n with
    | 0 => false
    | n + 1 => depDs n xs
  | .lst _ xs => match n with
    | 0 => false
    | n + 1 => depDs n xs
  | .dic _ xs => match n with
    | 0 => false
    | n + 1 => depKs n xs
def depDs (n : Nat) : List D → Bool
  | [] => true
  | d :: ds => depD n d && depDs n ds
def depKs (n : Nat) : List (Key × D) → Bool
  | [] => true
  | (_, d) :: ds => depD n d && depKs n ds
end
mutual
/-- how often something is spoilt -/
def wtD : D → Nat
  | .non | .bl _ | .int _ | .str _ | .fn _ | .sta | .own _ | .clo _ _ | .any _ | .lab _ _ | .exc _ _ => 0
  | .tup xs => wtDs xs
  | .lst _ xs => wtDs xs + 1
  | .dic _ xs => wtKs xs + 1
def wtDs : List D → Nat
  | [] => 0
  | d :: ds => wtD d + wtDs ds
def wtKs : List (Key × D) → Nat
  | [] => 0
  | (_, d) :: ds => wtD d + wtKs ds
end
theorem new_lst' {k e : Nat} {xs : List D} (h : newD k (.lst e xs) = true) : (k < e ∧ xs.length < 2 ^ 20) ∧ newDs k xs = true := by simpa [newD] using h
theorem new_dic' {k e : Nat} {xs : List (Key × D)} (h : newD k (.dic e xs) = true) : (k < e ∧ xs.length < 2 ^ 20) ∧ newKs k xs = true := by simpa [newD] using h
theorem new_cons {k : Nat} {d : D} {xs : List D} (h : newDs k (d :: xs) = true) : newD k d = true ∧ newDs k xs = true := by simpa [newDs] using h
theorem new_kcons {k : Nat} {y : Key} {d : D} {xs : List (Key × D)} (h : newKs k ((y, d) :: xs) = true) : newD k d = true ∧ newKs k xs = true := by simpa [newKs] using h
theorem dep_cons {k : Nat} {d : D} {xs : List D} (h : depDs k (d :: xs) = true) : depD k d = true ∧ depDs k xs = true := by simpa [depDs] using h
theorem dep_kcons {k : Nat} {y : Key} {d : D} {xs : List (Key × D)} (h : depKs k ((y, d) :: xs) = true) : depD k d = true ∧ depKs k xs = true := by simpa [depKs] using h
/-- the nodes of a tree that came after k -/
def Pk (g : Gd) (er : Er) (c k : Nat) (ow : Addr → Prop) (H : Hp) (a : Addr) : Prop := (∃ e, k < e ∧ e ≤ c ∧ ¬ er e a) ∧ Free g ow a ∧ ((∃ vs, H a = some (.lst vs)) ∨ ∃ vs, H a = some (.dK vs))
theorem spOk_Pk {k : Nat} : SpOk g er c k ow H (Pk g er c k ow H) := ⟨fun _ h => h.1, fun _ h => h.2.2, fun _ h => h.2.1⟩
mutual
theorem spD_of {k : Nat} (nf : ∀ a e, k < e → e ≤ c → ¬ er e a → ∀ o u, H a ≠ some (.frz o u)) : ∀ {v : V} {d : D} {n : Nat}, RepD g er c H ow v d → newD k d = true → depD n d = true → SpD g.K H (Pk g er c k ow H) n v (wtD d)
  | _, _, _, .non, _, _ => by rw [wtD]; exact .non
  | _, _, _, .bl b, _, _ => by rw [wtD]; exact .bl b
  | _, _, _, .int i, _, _ => by rw [wtD]; exact .int i
  | _, _, _, .str s, _, _ => by rw [wtD]; exact .str s
  | _, _, 0, .tup h r, _, q => by simp [depD] at q
  | _, _, n + 1, .tup h r, o, q => by rw [wtD]; exact .tup h (spDs_of nf r (by simpa [newD] using o) (by simpa [depD] using q))
  | _, _, 0, .lst h he hf r, _, q => by simp [depD] at q
  | _, _, n + 1, .lst h he hf r, o, q => by
    rw [wtD]
    exact .lst h ⟨⟨_, (new_lst' o).1.1, he.1, he.2.1⟩, hf, .inl ⟨_, h⟩⟩ (by rw [r.length]; exact (new_lst' o).1.2) (spDs_of nf r (new_lst' o).2 (by simpa [depD] using q))
  | _, _, 0, .dic h he hf nd r, _, q => by simp [depD] at q
  | _, _, n + 1, .dic h he hf nd r, o, q => by
    rw [wtD]
    have h' := h.elim id fun ⟨ob, z⟩ => absurd z (nf _ _ (new_dic' o).1.1 he.1 he.2.1 _ _)
    exact .dic h' ⟨⟨_, (new_dic' o).1.1, he.1, he.2.1⟩, hf, .inr ⟨_, h'⟩⟩ nd (by rw [r.length]; exact (new_dic' o).1.2) (spKs_of nf r (new_dic' o).2 (by simpa [depD] using q))
  | _, _, _, .fn h hx, o, _ => by simp [newD] at o
  | _, _, _, .any v, o, _ => by simp [newD] at o
  | _, _, _, .lab h, o, _ => by simp [newD] at o
  | _, _, _, .exc hx h hp hd, o, _ => by simp [newD] at o
theorem spDs_of {k : Nat} (nf : ∀ a e, k < e → e ≤ c → ¬ er e a → ∀ o u, H a ≠ some (.frz o u)) : ∀ {vs : List V} {ds : List D} {n : Nat}, RepDs g er c H ow vs ds → newDs k ds = true → depDs n ds = true → SpDs g.K H (Pk g er c k ow H) n vs (wtDs ds)
  | _, _, _, .nil, _, _ => by rw [wtDs]; exact .nil
  | _, _, _, .cons h r, o, q => by rw [wtDs]; exact .cons (spD_of nf h (new_cons o).1 (dep_cons q).1) (spDs_of nf r (new_cons o).2 (dep_cons q).2)
theorem spKs_of {k : Nat} (nf : ∀ a e, k < e → e ≤ c → ¬ er e a → ∀ o u, H a ≠ some (.frz o u)) : ∀ {vs : List (Key × V)} {ds : List (Key × D)} {n : Nat}, RepKs g er c H ow vs ds → newKs k ds = true → depKs n ds = true → SpDs g.K H (Pk g er c k ow H) n (vs.map (·.2)) (wtKs ds)
  | _, _, _, .nil, _, _ => by rw [wtKs]; exact .nil
  | _, _, _, .cons h r, o, q => by rw [wtKs]; exact .cons (spD_of nf h (new_kcons o).1 (dep_kcons q).1) (spKs_of nf r (new_kcons o).2 (dep_kcons q).2)
end
/-- behind an anchor nothing new is frozen -/
theorem nf_of (m : NxS g σ0 er0 H0 ρ0 μ0 σ er H ρ μ) : ∀ a e, μ0.ec < e → e ≤ μ.ec → ¬ er e a → ∀ o u, H a ≠ some (.frz o u) := fun a e h1 h2 h3 o u z =>
  h3 (m.x.new a e (by rw [m.x.nfz a o u z]; exact fun z => nomatch z) h1 h2)
end
end GW

set_option maxHeartbeats 2000000
namespace GW
open PySem PySem.Spec PyProof.Rows L2
section
variable {D P : Addr → Prop} {C H : Hp} {m : Nat}
def spoilt : Str := "spoilt"
/-- how a list (a dict) stands after some of its visits -/
structure SInv (D P : Addr → Prop) (C : Hp) (m : Nat) (H : Hp) : Prop where
  x : SpX P C H
  lst : ∀ a vs, P a → C a = some (.lst vs) → ∃ k, k ≤ m ∧ H a = some (.lst (vs ++ List.replicate k (.str spoilt)))
  dic : ∀ a vs, P a → C a = some (.dK vs) → ∃ ws, H a = some (.dK ws) ∧ (ws = vs ∧ ¬ D a ∨ ws = putK vs (Sum.inr spoilt : Key) (V.int (-1)))
theorem SInv.start : SInv (fun _ => False) P H 0 H := ⟨.refl, fun _ vs _ h => ⟨0, Nat.le_refl _, by simpa using h⟩, fun _ vs _ h => ⟨vs, h, .inl ⟨rfl, id⟩⟩⟩
theorem SInv.mono {m' : Nat} (I : SInv D P C m H) (h : m ≤ m') : SInv D P C m' H := ⟨I.x, fun a vs p e => let ⟨k, h1, h2⟩ := I.lst a vs p e; ⟨k, Nat.le_trans h1 h, h2⟩, I.dic⟩
theorem spx_upd {a : Addr} {o u : HO} (p : P a) (hz : ∀ ob u, o ≠ .frz ob u := by intro _ _ z; cases z) : SpX P H (upd H a o) :=
  ⟨fun b o' h n => by rw [upd_ne (fun z => n (by rw [z]; exact p))]; exact h, fun b h => upd_some b h, fun b ob u h => by
    by_cases e : b = a
    · rw [e, upd_same] at h; exact absurd (Option.some.inj h) (hz _ _)
    · rw [upd_ne e] at h; exact h⟩
/-- a new object beside -/
theorem SInv.new {q : Addr} {o : HO} (I : SInv D P C m H) (hq : H q = none) (hz : ∀ ob u, o ≠ .frz ob u := by intro _ _ z; cases z) : SInv D P C m (upd H q o) := by
  refine ⟨⟨fun a o' h n => by rw [upd_ne (ne_of_none (I.x.same a o' h n) hq)]; exact I.x.same a o' h n, fun a h => upd_some a (I.x.dom a h), fun b ob u h => ?_⟩, fun a vs p e => ?_, fun a vs p e => ?_⟩
  · by_cases e : b = q
    · rw [e, upd_same] at h; exact absurd (Option.some.inj h) (hz _ _)
    · rw [upd_ne e] at h; exact I.x.nfz b ob u h
  · obtain ⟨k, h1, h2⟩ := I.lst a vs p e
    exact ⟨k, h1, by rw [upd_ne (ne_of_none h2 hq)]; exact h2⟩
  · obtain ⟨ws, h1, h2⟩ := I.dic a vs p e
    exact ⟨ws, by rw [upd_ne (ne_of_none h1 hq)]; exact h1, h2⟩
/-- one more "spoilt" at a list's end -/
theorem SInv.app {a : Addr} {vs xs : List V} (I : SInv D P C m H) (p : P a) (hc : C a = some (.lst vs)) (hh : H a = some (.lst xs)) : SInv D P C (m + 1) (upd H a (.lst (xs ++ [.str spoilt]))) := by
  obtain ⟨k, h1, h2⟩ := I.lst a vs p hc
  rw [hh] at h2; cases h2
  refine ⟨I.x.trans (spx_upd (u := .lst []) p), fun b ws pb e => ?_, fun b ws pb e => ?_⟩
  · by_cases z : b = a
    · rw [z, hc] at e; cases e
      exact ⟨k + 1, by omega, by rw [z, upd_same, List.replicate_succ', List.append_assoc]⟩
    · obtain ⟨k', q1, q2⟩ := I.lst b ws pb e
      exact ⟨k', by omega, by rw [upd_ne z]; exact q2⟩
  · have z : b ≠ a := fun z => by rw [z, hc] at e; cases e
    obtain ⟨us, q1, q2⟩ := I.dic b ws pb e
    exact ⟨us, by rw [upd_ne z]; exact q1, q2⟩
theorem putK_idem {kvs : List (Key × V)} {k : Key} {v : V} : putK (putK kvs k v) k v = putK kvs k v := by
  have hm : ∀ l : List (Key × V), (l.map fun kv => if kv.1 = k then (kv.1, v) else kv).map (fun kv => if kv.1 = k then (kv.1, v) else kv) = l.map fun kv => if kv.1 = k then (kv.1, v) else kv := fun l => by
    rw [List.map_map]
    refine List.map_congr_left fun kv _ => ?_
    show (if (if kv.1 = k then (kv.1, v) else kv).1 = k then _ else _) = _
    by_cases e : kv.1 = k
    · simp [e]
    · simp [e]
  by_cases h : (kvs.any fun kv => decide (kv.1 = k)) = true
  · have e : putK kvs k v = kvs.map fun kv => if kv.1 = k then (kv.1, v) else kv := by unfold putK; rw [if_pos h]
    rw [e]
    have h2 : ((kvs.map fun kv => if kv.1 = k then (kv.1, v) else kv).any fun kv => decide (kv.1 = k)) = true := by
      rw [List.any_map]
      refine (List.any_eq_true.mp h).elim fun kv z => List.any_eq_true.mpr ⟨kv, z.1, ?_⟩
      have : kv.1 = k := of_decide_eq_true z.2
      simp [this]
    unfold putK
    rw [if_pos h2, hm]
  · have e : putK kvs k v = kvs ++ [(k, v)] := by unfold putK; rw [if_neg h]
    rw [e]
    have h2 : ((kvs ++ [(k, v)]).any fun kv => decide (kv.1 = k)) = true := by rw [List.any_append]; simp
    unfold putK
    rw [if_pos h2, List.map_append]
    have h3 : (kvs.map fun kv => if kv.1 = k then (kv.1, v) else kv) = kvs := by
      conv => rhs; rw [← List.map_id kvs]
      refine List.map_congr_left fun kv hk => ?_
      have : ¬ kv.1 = k := fun z => h (List.any_eq_true.mpr ⟨kv, hk, decide_eq_true z⟩)
      simp [this]
    rw [h3]; simp
/-- a dict's "spoilt" -/
theorem SInv.put {a : Addr} {vs xs : List (Key × V)} (I : SInv D P C m H) (p : P a) (hc : C a = some (.dK vs)) (hh : H a = some (.dK xs)) : SInv D P C m (upd H a (.dK (putK xs (Sum.inr spoilt : Key) (V.int (-1))))) := by
  obtain ⟨us, h1, h2⟩ := I.dic a vs p hc
  rw [hh] at h1; cases h1
  refine ⟨I.x.trans (spx_upd (u := .lst []) p), fun b ws pb e => ?_, fun b ws pb e => ?_⟩
  · have z : b ≠ a := fun z => by rw [z, hc] at e; cases e
    obtain ⟨k', q1, q2⟩ := I.lst b ws pb e
    exact ⟨k', q1, by rw [upd_ne z]; exact q2⟩
  · by_cases z : b = a
    · rw [z, hc] at e; cases e
      refine ⟨_, by rw [z, upd_same], .inr ?_⟩
      rcases h2 with ⟨rfl, _⟩ | rfl
      · rfl
      · exact putK_idem
    · obtain ⟨us, q1, q2⟩ := I.dic b ws pb e
      exact ⟨us, by rw [upd_ne z]; exact q1, q2⟩
end
end GW

set_option maxHeartbeats 2000000
namespace GW
open PySem PySem.Spec PyProof.Rows L2
section
variable {D P : Addr → Prop} {C H : Hp} {m n w : Nat} {K : PySem.W.Frag} {v : V}
def PLd (P : Addr → Prop) (C : Hp) : Prop := ∀ a, P a → (∃ vs, C a = some (.lst vs)) ∨ ∃ vs, C a = some (.dK vs)
theorem SInv.sqT {a : Addr} {vs : List V} (I : SInv D P C m H) (L : PLd P C) (h : SqT K C a vs) : SqT K H a vs := by
  have np : ∀ o, C a = some o → (∀ xs, o ≠ .lst xs) → (∀ xs, o ≠ HO.dK xs) → ¬ P a := fun o e n1 n2 z => by
    rcases L a z with ⟨xs, q⟩ | ⟨xs, q⟩
    · rw [e] at q; exact n1 _ (Option.some.inj q)
    · rw [e] at q; exact n2 _ (Option.some.inj q)
  rcases h with (h | ⟨o, h⟩) | h
  · exact .inl (.inl (I.x.same a _ h (np _ h (fun _ z => nomatch z) fun _ z => nomatch z)))
  · exact .inl (.inr ⟨o, I.x.same a _ h (np _ h (fun _ z => nomatch z) fun _ z => nomatch z)⟩)
  · exact .inr h
/-- the kinds of what is spoilt, while it is being spoilt -/
inductive SpK (K : PySem.W.Frag) (C : Hp) (P : Addr → Prop) (H : Hp) (m : Nat) : Nat → V → Nat → String → Prop
  | atom {n : Nat} {v : V} {t : String} (h : t = "NoneType" ∨ t = "bool" ∨ t = "int" ∨ t = "str") : SpK K C P H m n v 0 t
  | tup {n w : Nat} {a : Addr} {vs : List V} (h : SqT K H a vs) (r : SpDs K C P n vs w) : SpK K C P H m (n + 1) (.ref a) w "tuple"
  | lst {n w k : Nat} {a : Addr} {vs : List V} (hc : C a = some (.lst vs)) (p : P a) (hl : vs.length < 2 ^ 20) (hk : k ≤ m) (h : H a = some (.lst (vs ++ List.replicate k (.str spoilt)))) (r : SpDs K C P n vs w) : SpK K C P H m (n + 1) (.ref a) (w + 1) "list"
  | dic {n w : Nat} {a : Addr} {vs ws : List (Key × V)} (hc : C a = some (.dK vs)) (p : P a) (nd : (vs.map (·.1)).Nodup) (hl : vs.length < 2 ^ 20) (h : H a = some (.dK ws)) (e : ws = vs ∨ ws = putK vs (Sum.inr spoilt : Key) (V.int (-1))) (r : SpDs K C P n (vs.map (·.2)) w) : SpK K C P H m (n + 1) (.ref a) (w + 1) "dict"
theorem SpD.kind (h : SpD K C P n v w) (I : SInv D P C m H) (L : PLd P C) : ∃ t, TyX K H v (.type t) ∧ SpK K C P H m n v w t := by
  cases h with
  | non => exact ⟨_, .base .non, .atom (.inl rfl)⟩
  | bl b => exact ⟨_, .base (.bl b), .atom (.inr (.inl rfl))⟩
  | int i => exact ⟨_, .base (.int i), .atom (.inr (.inr (.inl rfl)))⟩
  | str s => exact ⟨_, .base (.str s), .atom (.inr (.inr (.inr rfl)))⟩
  | tup h r =>
    have h' := I.sqT L h
    refine ⟨"tuple", ?_, .tup h' r⟩
    rcases h' with (h1 | ⟨o, h1⟩) | ⟨o, its, n, h1, h2, h3⟩
    · exact .base (.tup h1)
    · exact .fTuple h1
    · exact .kTuple h1 h2
  | lst h p hl r =>
    obtain ⟨k, h1, h2⟩ := I.lst _ _ p h
    exact ⟨_, .base (.lst h2), .lst h p hl h1 h2 r⟩
  | dic h p nd hl r =>
    obtain ⟨ws, h1, h2⟩ := I.dic _ _ p h
    exact ⟨_, .base (.dK h1), .dic h p nd hl h1 (h2.imp_left (·.1)) r⟩
/-- the promise of _law_spoil, by levels -/
def spSp (K : PySem.W.Frag) : Nat → Sp
  | 0 => fun _ _ _ _ => False
  | k + 1 => fun vs H Q _ => ∃ (D P : Addr → Prop) (C : Hp) (v : V) (w m : Nat), vs = [v] ∧ PLd P C ∧ SpD K C P k v w ∧ SInv D P C m H ∧ m + w ≤ 2 ^ 20 ∧ ∀ v' H', SInv D P C (m + w) H' → Q v' H'
theorem spSp_len {k : Nat} {vs : List V} {Q : VK} {E : XK} (h : spSp K k vs H Q E) : vs.length = 1 := by
  cases k with
  | zero => exact h.elim
  | succ k => obtain ⟨_, _, _, _, _, _, rfl, _⟩ := h; rfl
end
section
variable {g : Gd} {X : Cx} {W : WX} {av : Addr → Prop}
/-- an era begins within an anchored block -/
def aEra (f : Nat → Ro → Mu → Rs Fl) : Nat → Ro → Mu → Rs Fl := fun k ρ μ => f k ρ (newEra μ)
theorem OkAS.era {sts : List Stmt} {f : Nat → Ro → Mu → Rs Fl} (O : OkAS g X sts f) : OkAS g X sts (aEra f) := by
  intro av W σ0 er0 H0 ρ0 μ0 σ er H ρ μ Z tk m h
  exact O av W σ0 er0 H0 ρ0 μ0 σ _ H ρ (newEra μ) Z tk (m.trans (nx_era m.env m.hp).s) h
end
end GW

set_option maxHeartbeats 2000000
namespace GW
open PySem PySem.Spec PyProof.Rows L2
section
variable {g : Gd} {X : Cx} {W : WX} {σ : St} {er : Er} {H H2 : Hp} {ρ : Ro} {μ : Mu} {c : Nat} {ow ow' P : Addr → Prop} {av : Addr → Prop} {bl : List Str} {n : Nat} {N : List Str} {sc : Scope} {α β : Type} {tg iter : Expr}
/-- a def that spoils what it gets -/
structure FunSp (X : Cx) (k : Nat) (x : Str) (l : Nat) : Prop where
  ex : ∃ (f : Addr) (fd : FuncData) (ps : List Str), FnOk X.prog X.w X.K X.mg X.base (L2.CX X.prog X.w) k f fd ps (spSp X.K l) ∧ X.mg x = some (.ref f) ∧ PySem.W.keepIn X.K (.ref f) = true ∧ L2.Binds X.K fd ps []
def aSpoil (l : Nat) (fa : Ro → Mu → Rs D) (r : Nat → Ro → Mu → Rs Fl) : Nat → Ro → Mu → Rs Fl := fun k ρ μ => (fa ρ μ).bind fun d ρ1 μ1 => (datR d ρ1 μ1).bind fun d ρ2 μ2 => if newD k d = true ∧ depD l d = true ∧ wtD d ≤ 2 ^ 20 then r k (keepR k ρ2) μ2 else .no
theorem OkAS.spoil {k l : Nat} {x : Str} {e : Expr} {rest : List Stmt} {fa : Ro → Mu → Rs D} {r : Nat → Ro → Mu → Rs Fl} {p pos pos' : Pos} (C : Cxt g bl n N sc X) (Fx : FunSp X k x (l + 1)) (hk : k ≤ n) (hg : sc.names.lookup x = some .globalImplicit) (hd : (x == ("__debug__" : Str)) = false) (Oe : OkE g X e fa) (R : OkAS g X rest r)
    (he : starEach [e] X.env = (false, eval e X.env) :: starEach [] X.env := by rfl) (hpl : (backTo pos (starEach [] X.env)).any (·.1) = false := by rfl) (hs : swapsWith (.Call (.Name x p) [e] [] pos) none pos'.line X.env = pure false := by rfl) : OkAS g X (.Expr (.Call (.Name x p) [e] [] pos) pos' :: rest) (aSpoil l fa r) := by
  intro av W σ0 er0 H0 ρ0 μ0 σ er H ρ μ Z tk m h
  have h : DenS (g.at av) W σ0 er0 H0 ρ0 μ0 ((fa ρ μ).bind fun d ρ1 μ1 => (datR d ρ1 μ1).bind fun d ρ2 μ2 => if newD μ0.ec d = true ∧ depD l d = true ∧ wtD d ≤ 2 ^ 20 then r μ0.ec (keepR μ0.ec ρ2) μ2 else .no) Z := h
  obtain ⟨f, fd, ps, Fk, hm, kp, hb⟩ := Fx.ex
  refine .of (pss_cons psR pssR) (.of (ps_expr peR hs) (.of (pe_callS Fk (C.room.mono hk) (C.gl hg) hm kp hb (E := WE W) (passAt tk) (pa_cons peR pa_nil he) hd he hpl) (Oe av W σ er H ρ μ _ tk m.env m.hp ?_)))
  cases e1 : fa ρ μ with
  | no => rw [e1] at h; exact h
  | ex y fs ρ' μ' => rw [e1] at h; exact fun cls dd H' er' n1 q => h cls dd σ H' er' (m.trans n1.s) q
  | ok d ρ1 μ1 =>
    rw [e1] at h
    intro v H1 er1 n1 r1
    have h : DenS (g.at av) W σ0 er0 H0 ρ0 μ0 ((datR d ρ1 μ1).bind fun d ρ2 μ2 => if newD μ0.ec d = true ∧ depD l d = true ∧ wtD d ≤ 2 ^ 20 then r μ0.ec (keepR μ0.ec ρ2) μ2 else .no) Z := h
    unfold datR at h
    cases e2 : fz d ρ1 with
    | none => rw [e2] at h; exact h.elim
    | some q =>
      obtain ⟨d', ρ2⟩ := q
      rw [e2] at h
      obtain ⟨m2, r2⟩ := fz_ok n1.env n1.hp r1 e2
      have m3 := (m.trans n1.s).trans m2.s
      simp only [Rs.bind_ok] at h
      split at h
      · rename_i hc
        refine ⟨fun _ => False, Pk (g.at av) er1 μ1.ec μ0.ec (Ow ρ2 σ) H1, H1, v, wtD d', 0, rfl, fun a q => q.2.2, ?_, SInv.start, by have := hc.2.2; omega, fun v' H' I => R av W σ0 er0 H0 ρ0 μ0 σ er1 H' (keepR μ0.ec ρ2) μ1 Z tk (nxs_spoil m3 spOk_Pk I.x) h⟩
        rw [C.hK]
        exact spD_of (nf_of m3) r2 hc.1 hc.2.1
      · exact h.elim
end
end GW

set_option maxHeartbeats 2000000
namespace GW
open PySem PySem.Spec PyProof.Rows L2
section
variable {P : Addr → Prop} {C H : Hp} {m n w : Nat} {K : PySem.W.Frag} {v : V}
theorem SpDs.app {w' : Nat} {us : List V} (s : SpDs K C P n us w') : ∀ {vs : List V} {w : Nat}, SpDs K C P n vs w → SpDs K C P n (vs ++ us) (w + w')
  | _, _, .nil => by rw [Nat.zero_add]; exact s
  | _, _, .cons h r => by rw [Nat.add_assoc]; exact .cons h (SpDs.app s r)
theorem SpDs.rep (k : Nat) : SpDs K C P n (List.replicate k (V.str spoilt)) 0 := by
  induction k with
  | zero => exact .nil
  | succ k ih => rw [List.replicate_succ]; exact .cons (w := 0) (w' := 0) (.str _) ih
/-- a list with its "spoilt" texts weighs what it weighed -/
theorem SpDs.more {vs : List V} (k : Nat) (r : SpDs K C P n vs w) : SpDs K C P n (vs ++ List.replicate k (V.str spoilt)) w := SpDs.app (.rep k) r
theorem SpDs.uncons {u : V} {vs : List V} (r : SpDs K C P n (u :: vs) w) : ∃ w1 w2, w = w1 + w2 ∧ SpD K C P n u w1 ∧ SpDs K C P n vs w2 := by
  cases r with
  | cons h r => exact ⟨_, _, rfl, h, r⟩
/-- a dict's weights by its keys -/
theorem SpDs.keys : ∀ {vs : List (Key × V)} {w : Nat}, (vs.map (·.1)).Nodup → SpDs K C P n (vs.map (·.2)) w → ∃ f : Key → Nat, (∀ kv ∈ vs, SpD K C P n kv.2 (f kv.1)) ∧ (∀ k, k ∉ vs.map (·.1) → f k = 0) ∧ (vs.map fun kv => f kv.1).sum = w
  | [], w, _, r => by
    cases r
    exact ⟨fun _ => 0, (fun kv h => nomatch h), fun _ _ => rfl, rfl⟩
  | kv :: vs, w, nd, r => by
    obtain ⟨w1, w2, rfl, h, r⟩ := SpDs.uncons r
    have nd := List.nodup_cons.mp nd
    obtain ⟨f, f1, f2, f3⟩ := SpDs.keys nd.2 r
    have ne : ∀ kv' ∈ vs, kv'.1 ≠ kv.1 := fun kv' h z => nd.1 (List.mem_map.mpr ⟨kv', h, z⟩)
    refine ⟨fun k => if k = kv.1 then w1 else f k, fun kv' h' => ?_, fun k hk => ?_, ?_⟩
    · rcases List.mem_cons.mp h' with rfl | h'
      · simpa using h
      · have := ne kv' h'
        simp only [this, if_false]; exact f1 kv' h'
    · rw [List.map_cons, List.mem_cons] at hk
      show (if k = kv.1 then w1 else f k) = 0
      rw [if_neg fun z => hk (.inl z)]; exact f2 k fun z => hk (.inr z)
    · have e : (vs.map fun kv' => if kv'.1 = kv.1 then w1 else f kv'.1) = vs.map fun kv' => f kv'.1 := List.map_congr_left fun kv' h' => if_neg (ne kv' h')
      simp [e, f3]
end
end GW

set_option maxHeartbeats 2000000
namespace GW
open PySem PySem.Spec PyProof.Rows L2
section
variable {D P : Addr → Prop} {C H : Hp} {m n w : Nat} {K : PySem.W.Frag} {v : V} {q : Addr} {o : HO}
theorem SInv.none (I : SInv D P C m H) (hq : H q = .none) : C q = .none := by
  by_cases h : C q = .none
  · exact h
  · exact absurd hq (I.x.dom q h)
theorem PLd.not (L : PLd P C) (hq : C q = .none) : ¬ P q := fun z => by
  rcases L q z with ⟨vs, e⟩ | ⟨vs, e⟩ <;> rw [hq] at e <;> cases e
theorem PLd.grow (L : PLd P C) (hq : C q = .none) : PLd P (upd C q o) := fun a z => by
  have ne : a ≠ q := fun e => L.not hq (e ▸ z)
  rw [upd_ne ne]; exact L a z
/-- a fresh object joins what is held fast -/
theorem SInv.add (I : SInv D P C m H) (L : PLd P C) (hq : H q = .none) : SInv D P (upd C q o) m (upd H q o) := by
  have cq := I.none hq
  have ne : ∀ a, P a → a ≠ q := fun a z e => L.not cq (e ▸ z)
  refine ⟨⟨fun a o' h np => ?_, fun a h => ?_, fun a ob u h => ?_⟩, fun a vs p e => ?_, fun a vs p e => ?_⟩
  · by_cases e : a = q
    · rw [e, upd_same] at h ⊢; exact h
    · rw [upd_ne e] at h ⊢; exact I.x.same a o' h np
  · by_cases e : a = q
    · rw [e, upd_same]; exact fun z => nomatch z
    · rw [upd_ne e] at h ⊢; exact I.x.dom a h
  · by_cases e : a = q
    · rw [e, upd_same] at h ⊢; exact h
    · rw [upd_ne e] at h ⊢; exact I.x.nfz a ob u h
  · rw [upd_ne (ne a p)] at e ⊢; exact I.lst a vs p e
  · rw [upd_ne (ne a p)] at e ⊢; exact I.dic a vs p e
/-- .. and goes -/
theorem SInv.drop (I : SInv D P (upd C q o) m H) (L : PLd P C) (hq : C q = .none) (hz : ∀ ob u, o ≠ .frz ob u := by intro _ _ z; cases z) : SInv D P C m H := by
  have ne : ∀ a, P a → a ≠ q := fun a z e => L.not hq (e ▸ z)
  have nn : ∀ a, C a ≠ .none → a ≠ q := fun a z e => z (by rw [e]; exact hq)
  refine ⟨⟨fun a o' h np => I.x.same a o' (by rw [upd_ne (nn a (by rw [h]; exact fun z => nomatch z))]; exact h) np, fun a h => I.x.dom a (by rw [upd_ne (nn a h)]; exact h), fun a ob u h => ?_⟩, fun a vs p e => I.lst a vs p (by rw [upd_ne (ne a p)]; exact e), fun a vs p e => I.dic a vs p (by rw [upd_ne (ne a p)]; exact e)⟩
  have h := I.x.nfz a ob u h
  by_cases e : a = q
  · rw [e, upd_same] at h; exact absurd (Option.some.inj h) (hz _ _)
  · rw [upd_ne e] at h; exact h
theorem sqT_grow {a : Addr} {vs : List V} (hq : C q = .none) (h : SqT K C a vs) : SqT K (upd C q o) a vs := by
  have nn : ∀ u, C a = some u → a ≠ q := fun u z e => by rw [e, hq] at z; cases z
  rcases h with (h | ⟨ob, h⟩) | h
  · exact .inl (.inl (by rw [upd_ne (nn _ h)]; exact h))
  · exact .inl (.inr ⟨ob, by rw [upd_ne (nn _ h)]; exact h⟩)
  · exact .inr h
mutual
theorem SpD.grow (hq : C q = .none) : ∀ {n : Nat} {v : V} {w : Nat}, SpD K C P n v w → SpD K (upd C q o) P n v w
  | _, _, _, .non => .non
  | _, _, _, .bl b => .bl b
  | _, _, _, .int i => .int i
  | _, _, _, .str s => .str s
  | _, _, _, .tup h r => .tup (sqT_grow hq h) (SpDs.grow hq r)
  | _, _, _, .lst h p hl r => .lst (by rw [upd_ne (ne_of_none h hq)]; exact h) p hl (SpDs.grow hq r)
  | _, _, _, .dic h p nd hl r => .dic (by rw [upd_ne (ne_of_none h hq)]; exact h) p nd hl (SpDs.grow hq r)
theorem SpDs.grow (hq : C q = .none) : ∀ {n : Nat} {v : List V} {w : Nat}, SpDs K C P n v w → SpDs K (upd C q o) P n v w
  | _, _, _, .nil => .nil
  | _, _, _, .cons h r => .cons (SpD.grow hq h) (SpDs.grow hq r)
end
end
end GW

set_option maxHeartbeats 2000000
namespace GW
open PySem PySem.Spec PyProof.Rows L2
section
variable {X : Cx} {D P : Addr → Prop} {C H : Hp} {m n w : Nat} {K : PySem.W.Frag}
def SameBut (i : Nat) (σ σ' : St) : Prop := σ'.length = σ.length ∧ ∀ j, j ≠ i → σ'[j]? = σ[j]?
/-- the loop over the copy of what is spoilt -/
theorem sp_loop {p : Addr} {xs : List V} {i : Nat} {σ0 : St} {Z : Ends} {body : List Stmt} {tg : Expr}
    (step : ∀ σ H m w v, SameBut i σ0 σ → SInv D P C m H → SpD K C P n v w → m + w ≤ 2 ^ 20 → ∀ (Z' : Ends), (∀ σ' H', SameBut i σ0 σ' → SInv D P C (m + w) H' → Z'.nx σ' H') → RunG X tg v σ H fun σ2 H2 => RunSs X body Z' σ2 H2)
    (hp : C p = some (.lst xs)) (np : ¬ P p) (r : SpDs K C P n xs w) (I : SInv D P C m H) (hm : m + w ≤ 2 ^ 20) (q : ∀ σ' H', SameBut i σ0 σ' → SInv D P C (m + w) H' → Z.nx σ' H') :
    ∃ Wm : Nat → Nat → St → Hp → Prop, (∃ t, Wm 0 t σ0 H) ∧ ∀ j t σ H, Wm j t σ H →
      ((Itl K p).stop j H ∧ Z.nx σ H) ∨ ((Itl K p).go j H ∧ ∃ Nx : St → Hp → Prop, (∀ σ' H', Nx σ' H' → ∃ t', t' < t ∧ Wm (j + 1) t' σ' H') ∧ ∀ x H', (Itl K p).yld j H x H' → RunG X tg x σ H' fun σ2 H2 => RunSs X body { Z with nx := Nx, ct := Nx, bk := Z.nx } σ2 H2) := by
  let S : Nat → St → Hp → Prop := fun j σ H => j ≤ xs.length ∧ SameBut i σ0 σ ∧ ∃ d w2, d + w2 = w ∧ SInv D P C (m + d) H ∧ SpDs K C P n (xs.drop j) w2
  refine ⟨fun j t σ H => t = xs.length - j ∧ S j σ H, ⟨xs.length, by simp, Nat.zero_le _, ⟨rfl, fun _ _ => rfl⟩, 0, w, by simp, I, r⟩, ?_⟩
  rintro j t σ H ⟨rfl, hj, sb, d, w2, hw, I, r⟩
  have hH : H p = some (.lst xs) := I.x.same p _ hp np
  by_cases hlt : j < xs.length
  · right
    rw [List.drop_eq_getElem_cons hlt] at r
    obtain ⟨w3, w4, e, r1, r2⟩ := SpDs.uncons r
    refine ⟨⟨xs, xs[j], .of hH, List.getElem?_eq_getElem hlt⟩, S (j + 1), fun σ' H' z => ⟨xs.length - (j + 1), by omega, rfl, z⟩, fun x H' y => ?_⟩
    obtain ⟨rfl, y⟩ := y
    have ex := y xs (.of hH)
    rw [List.getElem?_eq_getElem hlt] at ex
    cases ex
    exact step σ H' (m + d) w3 _ sb I r1 (by omega) _ fun σ' H2 sb' I' => ⟨hlt, sb', d + w3, w4, by omega, by rw [← Nat.add_assoc]; exact I', r2⟩
  · left
    have hge : xs.length ≤ j := Nat.le_of_not_lt hlt
    rw [List.drop_eq_nil_of_le hge] at r
    cases r
    refine ⟨⟨xs, .of hH, hge⟩, q σ H sb ?_⟩
    have : d = w := by omega
    rw [← this]; exact I
end
end GW

set_option maxHeartbeats 2000000
namespace GW
open PySem PySem.Spec PyProof.Rows L2
section
variable {g : Gd} {X : Cx} {W : WX} {D P : Addr → Prop} {C H : Hp} {m n k w lv : Nat} {bl : List Str} {N : List Str} {sc : Scope} {σ σ0 : St}
theorem own_atV {i : Nat} {x : Str} {pos : Pos} {v : V} {Q : VK} (hN : X.N[i]? = some x) (hv : Vis X.env.scope x) (hd : (x == ("__debug__" : Str)) = false) (hcd : (x == ("__classdict__" : Str)) = false) (hi : σ[i]? = some (some v)) (q : Q v H) : RunE X (.Name x pos) σ H Q :=
  .of (pe_var (i := i) hN hv hd hcd) ⟨_, hi, q⟩
theorem SameBut.set {i : Nat} {y : Option V} (h : SameBut i σ0 σ) : SameBut i σ0 (σ.set i y) := ⟨by rw [List.length_set]; exact h.1, fun j hj => by rw [set_get_ne hj]; exact h.2 j hj⟩
/-- one step of the loop over a list: the recursion -/
theorem sp_step {i : Nat} {x one : Str} {p p1 p2 pos pos' : Pos} {v : V} {f : Addr} {fd : FuncData} {ps : List Str} (Cc : Cxt g bl n N sc X) (S : CxS X) (tk : Takes X W) (F : FnOk X.prog X.w X.K X.mg X.base (L2.CX X.prog X.w) k f fd ps (spSp X.K (lv + 1))) (hk : k ≤ n) (hg : sc.names.lookup x = some .globalImplicit)
    (hd : (x == ("__debug__" : Str)) = false) (hm : X.mg x = some (.ref f)) (kp : PySem.W.keepIn X.K (.ref f) = true) (hb : L2.Binds X.K fd ps []) (hi : N[i]? = some one) (hl : Loc sc one) (hv : Vis sc one) (hd1 : (one == ("__debug__" : Str)) = false) (hc1 : (one == ("__classdict__" : Str)) = false)
    (he : starEach [.Name one p2] X.env = (false, eval (.Name one p2) X.env) :: starEach [] X.env := by rfl) (hpl : (backTo pos (starEach [] X.env)).any (·.1) = false := by rfl) (hs : swapsWith (.Call (.Name x p) [.Name one p2] [] pos) none pos'.line X.env = pure false := by rfl)
    (L : PLd P C) (hi2 : i < σ0.length) (sb : SameBut i σ0 σ) (I : SInv D P C m H) (r : SpD X.K C P lv v w) (hw : m + w ≤ 2 ^ 20) (Z' : Ends) (q : ∀ σ' H', SameBut i σ0 σ' → SInv D P C (m + w) H' → Z'.nx σ' H') :
    RunG X (.Name one p1) v σ H fun σ2 H2 => RunSs X [.Expr (.Call (.Name x p) [.Name one p2] [] pos) pos'] Z' σ2 H2 := by
  refine .of (pg_name Cc.ndup (Cc.at hi) (Cc.loc hl) (.inl (S.fn one))) ?_
  refine .of (pss_one psR) (.of (ps_expr peR hs) (.of (pe_callS F (Cc.room.mono hk) (Cc.gl hg) hm kp hb (E := WE W) (passAt tk) (pa_cons peR pa_nil he) hd he hpl) ?_))
  refine own_atV (Cc.at hi) (by rw [Cc.hsc]; exact hv) hd1 hc1 (set_get (by rw [sb.1]; exact hi2)) ?_
  exact ⟨D, P, C, v, w, m, rfl, L, r, I, hw, fun v' H' I' => q _ H' sb.set I'⟩
end
end GW

set_option maxHeartbeats 2000000
namespace GW
open PySem PySem.Spec PyProof.Rows L2
section
variable {P : Addr → Prop} {C H : Hp} {m n w : Nat} {K : PySem.W.Frag}
theorem valV_mem {j : Key} {u : V} : ∀ {vs : List (Key × V)}, valV vs j = some u → ∃ kv ∈ vs, kv.1 = j ∧ kv.2 = u
  | [], h => by rw [valV_nil] at h; cases h
  | kv :: vs, h => by
    by_cases e : kv.1 = j
    · rw [valV_pos e] at h; cases h
      exact ⟨kv, by simp, e, rfl⟩
    · rw [valV_neg e] at h
      obtain ⟨kv', h1, h2⟩ := valV_mem h
      exact ⟨kv', List.mem_cons_of_mem _ h1, h2⟩
theorem valV_key {j : Key} : ∀ {vs : List (Key × V)}, j ∈ vs.map (·.1) → ∃ u, valV vs j = some u
  | [], h => by cases h
  | kv :: vs, h => by
    by_cases e : kv.1 = j
    · exact ⟨_, valV_pos e⟩
    · rw [valV_neg e]
      rw [List.map_cons, List.mem_cons] at h
      exact valV_key (h.elim (fun z => absurd z.symm e) id)
/-- what stands at a key of a dict that is being spoilt -/
theorem sp_at {vs ws : List (Key × V)} {f : Key → Nat} {j : Key} (hf : ∀ kv ∈ vs, SpD K C P n kv.2 (f kv.1)) (hw : ws = vs ∨ ws = putK vs (Sum.inr spoilt : Key) (V.int (-1))) (hj : j = (Sum.inr spoilt : Key) ∧ ws ≠ vs ∨ j ∈ vs.map (·.1)) : ∃ u w', valV ws j = some u ∧ w' ≤ f j ∧ SpD K C P n u w' := by
  have old : j ∈ vs.map (·.1) → ∃ u w', valV vs j = some u ∧ w' ≤ f j ∧ SpD K C P n u w' := fun h => by
    obtain ⟨u, e⟩ := valV_key h
    obtain ⟨kv, h1, h2, h3⟩ := valV_mem e
    exact ⟨u, f j, e, Nat.le_refl _, by rw [← h3, ← h2]; exact hf kv h1⟩
  rcases hw with rfl | rfl
  · rcases hj with ⟨_, h⟩ | h
    · exact absurd rfl h
    · exact old h
  · by_cases e : j = (Sum.inr spoilt : Key)
    · exact ⟨V.int (-1), 0, by rw [valV_put, if_pos e], Nat.zero_le _, .int _⟩
    · rw [valV_put, if_neg e]
      exact old (hj.elim (fun z => absurd z.1 e) id)
end
end GW

set_option maxHeartbeats 2000000
namespace GW
open PySem PySem.Spec PyProof.Rows L2
section
variable {X : Cx} {D P : Addr → Prop} {C H : Hp} {m n w : Nat} {K : PySem.W.Frag}
/-- the loop over a copy, each item with its weight -/
theorem sp_loopW {p : Addr} {xs : List V} {wts : List Nat} {i : Nat} {σ0 : St} {Z : Ends} {body : List Stmt} {tg : Expr}
    (step : ∀ (σ : St) (H : Hp) (m j : Nat) (v : V) (w : Nat), xs[j]? = some v → wts[j]? = some w → SameBut i σ0 σ → SInv D P C m H → m + w ≤ 2 ^ 20 → ∀ (Z' : Ends), (∀ σ' H', SameBut i σ0 σ' → SInv D P C (m + w) H' → Z'.nx σ' H') → RunG X tg v σ H fun σ2 H2 => RunSs X body Z' σ2 H2)
    (hp : C p = some (.lst xs)) (np : ¬ P p) (hl : wts.length = xs.length) (I : SInv D P C m H) (hm : m + wts.sum ≤ 2 ^ 20) (q : ∀ σ' H', SameBut i σ0 σ' → SInv D P C (m + wts.sum) H' → Z.nx σ' H') :
    ∃ Wm : Nat → Nat → St → Hp → Prop, (∃ t, Wm 0 t σ0 H) ∧ ∀ j t σ H, Wm j t σ H →
      ((Itl K p).stop j H ∧ Z.nx σ H) ∨ ((Itl K p).go j H ∧ ∃ Nx : St → Hp → Prop, (∀ σ' H', Nx σ' H' → ∃ t', t' < t ∧ Wm (j + 1) t' σ' H') ∧ ∀ x H', (Itl K p).yld j H x H' → RunG X tg x σ H' fun σ2 H2 => RunSs X body { Z with nx := Nx, ct := Nx, bk := Z.nx } σ2 H2) := by
  let S : Nat → St → Hp → Prop := fun j σ H => j ≤ xs.length ∧ SameBut i σ0 σ ∧ ∃ d, d + (wts.drop j).sum = wts.sum ∧ SInv D P C (m + d) H
  refine ⟨fun j t σ H => t = xs.length - j ∧ S j σ H, ⟨xs.length, by simp, Nat.zero_le _, ⟨rfl, fun _ _ => rfl⟩, 0, by simp, I⟩, ?_⟩
  rintro j t σ H ⟨rfl, hj, sb, d, hw, I⟩
  have hH : H p = some (.lst xs) := I.x.same p _ hp np
  by_cases hlt : j < xs.length
  · right
    have hlt2 : j < wts.length := by omega
    rw [List.drop_eq_getElem_cons hlt2, List.sum_cons] at hw
    refine ⟨⟨xs, xs[j], .of hH, List.getElem?_eq_getElem hlt⟩, S (j + 1), fun σ' H' z => ⟨xs.length - (j + 1), by omega, rfl, z⟩, fun x H' y => ?_⟩
    obtain ⟨rfl, y⟩ := y
    have ex := y xs (.of hH)
    exact step σ H' (m + d) j x wts[j] ex (List.getElem?_eq_getElem hlt2) sb I (by omega) _ fun σ' H2 sb' I' => ⟨hlt, sb', d + wts[j], by omega, by rw [← Nat.add_assoc]; exact I'⟩
  · left
    have hge : xs.length ≤ j := Nat.le_of_not_lt hlt
    rw [List.drop_eq_nil_of_le (by omega)] at hw
    refine ⟨⟨xs, .of hH, hge⟩, q σ H sb ?_⟩
    have : d = wts.sum := by simpa using hw
    rw [← this]; exact I
end
end GW

set_option maxHeartbeats 2000000
/-! an own error class called with keywords: type.__call__, BaseException.__new__, the own __init__ -/
namespace GW
open PySem PySem.HandSPX PySem.Builtin PySem.Builtin.ObjectAttr
section
variable {M : Model} {A : Around} {E : Value → Shared → Prop} {h : Heap} {g : Array GenState} {d : Drawn} {t : Nat} {os : OsState}
variable {nm q : Str} {C N : Addr} {bs bm bmB : List Value} {hdct : Bool} {sn : List Str} {sub : List Value} {ab : Bool} {col : Option Bool} {dd : Option Addr} {k0 k1 k2 k3 k5 : Option Value} {B newId initId : String} {kws : List (Str × Value)}
theorem check_newK (F : ExcBaseFacts B newId initId bmB) (hT : ∀ X : String, bm.contains (.type X) = bmB.contains (.type X)) {rest : List Value} {Q : Unit → Shared → Prop}
    (hC : h.get? C = some (excClassObj nm q C N bs bm hdct sn sub ab col dd k0 k1 k2 k3 k5 newId)) (hq : Q () ⟨h, g, d, t, os⟩) : wpAny M A (checkBuiltinCall newId ⟨.ref C :: rest, kws⟩) Q E ⟨h, g, d, t, os⟩ := by
  have hcont : (Value.ref C :: bm).contains (.type B) = true := by rw [List.contains_cons, hT, F.hasB, Bool.or_true]
  have hstar := F.noStar
  simp only [checkBuiltinCall, F.newKind, F.newSplit, F.newRow]
  repeat (first | refine wpAny_loadPart_at hC ?_ | (refine wpAny_isSubtype_exc hC ?_; rw [hcont]) | refine wpAny_staticBase_exc hC ?_ | refine wpAny_madeBy_exc hC ?_ | simp only [bne_self_eq_false, Bool.false_eq_true, if_false] | wp_step)
  exact hq
theorem check_tcK {rest : List Value} {Q : Unit → Shared → Prop} (hC : h.get? C = some (excClassObj nm q C N bs bm hdct sn sub ab col dd k0 k1 k2 k3 k5 newId))
    (hq : Q () ⟨h, g, d, t, os⟩) : wpAny M A (checkBuiltinCall "type.__call__" ⟨.ref C :: rest, kws⟩) Q E ⟨h, g, d, t, os⟩ := by
  have f3 := tc_sub
  have hT : (⟨h, g, d, t, os⟩ : Shared).TypeIs (.ref C) "type" := ⟨_, hC, rfl⟩
  simp only [checkBuiltinCall, tc_kind, tc_split]
  repeat (any_goals (first | assumption | with_reducible refine wpAny_loadPart_at hC ?_ | with_reducible refine wpAny_onRaise ?_ | with_reducible refine wpAny_map ?_ | wp_step))
end
section
variable {prog : Program} {w : World} {A : Around} {E : Value → Shared → Prop} {R : Result → Shared → Prop} {h : Heap} {g : Array GenState} {d : Drawn} {t : Nat} {os : OsState}
variable {nm q : Str} {C N : Addr} {bs bm bmB : List Value} {hdct : Bool} {sn : List Str} {sub : List Value} {ab : Bool} {col : Option Bool} {dd : Option Addr} {k0 k1 k2 k3 k5 : Option Value} {B newId initId : String} {kws : List (Str × Value)}
theorem newK (F : ExcBaseFacts B newId initId bmB) (hT : ∀ X : String, bm.contains (.type X) = bmB.contains (.type X)) {rest : List Value}
    (hC : h.get? C = some (excClassObj nm q C N bs bm hdct sn sub ab col dd k0 k1 k2 k3 k5 newId))
    (hq : R (.ok (.ret (.ref (h.objs.size + 1)))) ⟨(h.push { cls := .type "tuple", data := .seq rest.toArray }).push
      { cls := .ref C, data := .fields #[.ref h.objs.size, .none, .none, .none, .bool false, .none] }, g, d, t, os⟩) (hrest : rest.length ≤ sizeLine) :
    codeAny (model prog w) A (.builtin newId ⟨.ref C :: rest, kws⟩) R ⟨h, g, d, t, os⟩ := by
  have hends := F.ends
  have hcB : (Value.ref C :: bm).contains (.type B) = true := by rw [List.contains_cons, hT, F.hasB, Bool.or_true]
  have hcA : (Value.ref C :: bm).contains (.type "AttributeError") = false := by rw [List.contains_cons, hT, F.noAttr]; rfl
  have hcN : (Value.ref C :: bm).contains (.type "NameError") = false := by rw [List.contains_cons, hT, F.noName]; rfl
  refine codeAny_builtinAt F.entry ?_
  unfold Builtin.«BaseException.__new__»
  refine wpAt_bind ?_
  show wpAt _ _ _ (stack >>= _) _ _ _
  refine wpAt_bind (wpAt_stack fun p below => wpAt_of_wpAny ?_)
  wp_walk
  refine wpAt_of_wpAny ?_
  rw [F.owner]
  repeat (first | with_reducible refine wpAny_madeHere_exc F.canon hC ?_ | with_reducible refine wpAny_loadPart_at hC ?_ | (with_reducible refine wpAny_isSubtype_exc hC ?_; first | rw [hcB] | rw [hcA] | rw [hcN]) | wp_step)
  show R _ _
  rw [Heap.size_push]
  exact hq
theorem type_callK (F : ExcBaseFacts B newId initId bmB) (hT : ∀ X : String, bm.contains (.type X) = bmB.contains (.type X)) {rest : List Value} {fI : Addr} {Q : Fin → Shared → Prop}
    (hC : h.get? C = some (excClassObj nm q C N bs bm hdct sn sub ab col dd k0 k1 k2 k3 k5 newId))
    (hi : W.Looks (model prog w) h (typeLookup (.ref C) "__init__") (some (.ref fI))) (hb : ∀ self, W.Looks (model prog w) h (bindSpecial (.ref fI) self) (.ref fI, [self])) (hrest : rest.length ≤ sizeLine)
    (hq : codeAny (model prog w) A (.call (.ref fI) ⟨.ref (h.objs.size + 1) :: rest, kws⟩)
      (fun r s' => match r with | .ok (.ret v) => v = .none ∧ Q (.done (.ret (.ref (h.objs.size + 1)))) s' | .ok _ => False | .error e => E e s')
      ⟨(h.push (W.kdv_tup rest)).push (excO C h.objs.size), g, d, t, os⟩) :
    wpAny (model prog w) A (Builtin.«type.__call__» ⟨.ref C :: rest, kws⟩) Q E ⟨h, g, d, t, os⟩ := by
  repeat (first | with_reducible refine wpAny_loadPart_at hC ?_ | with_reducible refine wpAny_madeBy_exc hC ?_ | wp_step)
  refine codeAny_call_builtin_code (Code.quiet_builtin _ F.quiet) (check_newK F hT hC ?_)
  refine newK F hT hC ?_ hrest
  show wpAny _ _ _ _ _ _
  have k : ∀ b o, h.get? b = some o → ((h.push (W.kdv_tup rest)).push (excO C h.objs.size)).get? b = some o := fun b o e => Heap.get?_push_of_some _ (Heap.get?_push_of_some _ e)
  have hC₁ := k _ _ hC
  have hget : ((h.push (W.kdv_tup rest)).push (excO C h.objs.size)).get? (h.objs.size + 1) = some (excO C h.objs.size) := by heap_get
  have hcC : (Value.ref C :: bm).contains (.ref C) = true := by simp
  have i1 := hi.keeps k
  have b1 := (hb (.ref (h.objs.size + 1))).keeps k
  unfold isInstance
  repeat (first | with_reducible refine wpAny_loadPart_at hget ?_ | (with_reducible refine wpAny_isSubtype_exc hC₁ ?_; rw [hcC]) | wp_step)
  show wpAny _ _ (typeLookup (.ref C) _) _ _ _
  refine i1.at ?_
  refine wpAny_holding (wpAny_bind (b1.at ?_))
  refine wpAny_bind (wpAny_call (codeAny_mono hq fun r s' z => ?_))
  rcases r with e | (v | _ | _ | _) <;> first | exact z | exact z.elim | skip
  obtain ⟨rfl, z⟩ := z
  first
    | exact wpAny_pure (wpAny_pure z)
    | (wp_walk; exact z)
theorem call_ownK (F : ExcBaseFacts B newId initId bmB) (hT : ∀ X : String, bm.contains (.type X) = bmB.contains (.type X)) {rest : List Value} {fI : Addr}
    (hC : h.get? C = some (excClassObj nm q C N bs bm hdct sn sub ab col dd k0 k1 k2 k3 k5 newId))
    (hi : W.Looks (model prog w) h (typeLookup (.ref C) "__init__") (some (.ref fI))) (hb : ∀ self, W.Looks (model prog w) h (bindSpecial (.ref fI) self) (.ref fI, [self])) (hrest : rest.length ≤ sizeLine)
    (hq : codeAny (model prog w) (A.under (.builtin "type.__call__" ⟨.ref C :: rest, kws⟩)) (.call (.ref fI) ⟨.ref (h.objs.size + 1) :: rest, kws⟩) (W.InitBack (h.objs.size + 1) R)
      ⟨(h.push (W.kdv_tup rest)).push (excO C h.objs.size), g, d, t, os⟩) :
    codeAny (model prog w) A (.call (.ref C) ⟨rest, kws⟩) R ⟨h, g, d, t, os⟩ := by
  have f1 := tc_lookup
  have f2 := tc_bind (.ref C)
  have hTy : (⟨h, g, d, t, os⟩ : Shared).TypeIs (.ref C) "type" := ⟨_, hC, rfl⟩
  refine codeAny_of_tree ?_
  show wpAny _ _ (callAny (.ref C) _) _ _ _
  repeat (any_goals (first | assumption | with_reducible refine wpAny_loadPart_at hC ?_ | wp_step))
  refine ⟨rfl, ?_⟩
  refine codeAny_call_builtin_at (Code.quiet_builtin _ (by decide +kernel)) entry_typeCall (check_tcK hC (type_callK F hT hC hi hb hrest ?_))
  refine codeAny_mono hq fun r s' z => ?_
  rcases r with e | (v | _ | _ | _) <;> exact z
end
end GW

set_option maxHeartbeats 2000000
/-! an own error class called: the error as a value -/
namespace GW
open PySem PySem.Spec PyProof.Rows L2
section
variable {g : Gd} {X : Cx} {W : WX} {σ : St} {er : Er} {H H2 : Hp} {ρ : Ro} {μ : Mu} {c : Nat} {ow ow' : Addr → Prop} {av : Addr → Prop} {bl : List Str} {n : Nat} {N : List Str} {sc : Scope} {α β : Type} {tg iter : Expr}
/-- the dict of an error, read the other way -/
theorem inv_xd {pins : List (Addr × Obj)} {s : Shared} {dx : Addr} {fs : List (Str × V)} (I : Inv X pins σ H s) (e : H dx = some (exd dx fs)) : Inv X pins σ (upd H dx (.xd fs)) s := by
  obtain ⟨hp, gs, dr, tk, os⟩ := s
  have nn : ∀ {b : Addr} {o : HO}, H b = some o → o ≠ exd dx fs → b ≠ dx := fun {b o} q ne z => by rw [z, e] at q; exact ne (Option.some.inj q).symm
  have ok : HOk X.prog X.w (upd H dx (.xd fs)) hp := fun b o q => by
    by_cases hb : b = dx
    · subst hb
      rw [upd_same] at q
      cases q
      exact exd_at I.hok e
    · rw [upd_ne hb] at q
      exact (I.hok b o q).stay (fun _ _ _ z => z) (fun c' hc => by rw [upd_ne (nn hc fun z => exd_own z.symm)]; exact hc) fun c' xs hc => by rw [upd_ne (nn hc fun z => exd_tup z.symm)]; exact hc
  have u : Un X.fs [] H (upd H dx (.xd fs)) hp hp :=
    ⟨fun b o q _ _ _ => q, fun b o q _ _ _ => ⟨o.slots, q⟩, fun b o q z _ => by
      rw [upd_ne (fun w => by rw [w, e] at z; cases z)]; exact z, fun b o q _ => ⟨o, q⟩, fun b xs q => by rw [upd_ne (nn q fun z => exd_tup z.symm)]; exact q,
      fun b o v q => by rw [upd_ne (nn q fun z => nomatch z)]; exact q, fun b ps q => ⟨#[], by rw [upd_ne (nn q fun z => nomatch z)]; simpa using q⟩⟩
  exact I.un (t' := tk) u ok
/-- the object that the class at C makes of v under the name f -/
theorem run_oexV {pins : List (Addr × Obj)} {s : Shared} {C fI : Addr} {fd : FuncData} {ps : List Str} {f : Str} {us : List Value} {kws : List (Str × Value)} {v : V} {u : Value} {Q : VK} (T : OexC X.K C) (iC : PySem.W.findIn X.K (.ref C) "__init__" = some (some (.ref fI)))
    (tI : PySem.W.typeIn X.K (.ref fI) = some (.type "function")) (F1 : FnOk X.prog X.w X.K X.mg X.base (L2.CX X.prog X.w) 1 fI fd ps (spI X.K f)) (hr : Room 2 X.A) (tk : Takes X W) (hno : PySem.W.findIn X.K (.ref C) f = some none)
    (hb : ∀ (s' : Shared) (self : Value), X.K.In s'.heap → BindsTo s' fd ⟨self :: us, kws⟩ (ps.zip [self, u])) (hus : us.length ≤ sizeLine) (I : Inv X pins σ H s) (r : RelV v u)
    (q : ∀ a dx, H a = none → H dx = none → dx ≠ a → Q (.ref a) (upd (upd H a (exo a C (some dx))) dx (.xd [(f, v)]))) : wpAny (model X.prog X.w) X.A (call (.ref C) us kws) (EP X pins σ Q) X.xe s := by
  obtain ⟨nm, qn, N, bs, bm, sn, sub, ab, col, dd, k0, k1, k2, k3, k5, hC, hbm⟩ := T.cls
  obtain ⟨hp, gs, dr, tok, os⟩ := s
  have hsz : hp.objs.size ≤ hp.objs.size + 1 := Nat.le_succ _
  have hn : H (hp.objs.size + 1) = none := I.hok.fresh hsz
  have kk : ∀ b o, hp.get? b = some o → ((hp.push (PySem.W.kdv_tup us)).push (PySem.HandSPX.excO C hp.objs.size)).get? b = some o := fun b o e => Heap.get?_push_of_some _ (Heap.get?_push_of_some _ e)
  have hget : ((hp.push (PySem.W.kdv_tup us)).push (PySem.HandSPX.excO C hp.objs.size)).get? (hp.objs.size + 1) = some (PySem.HandSPX.excO C hp.objs.size) := by heap_get
  have I2 : Inv X pins σ (upd H (hp.objs.size + 1) (exo (hp.objs.size + 1) C none)) ⟨(hp.push (PySem.W.kdv_tup us)).push (PySem.HandSPX.excO C hp.objs.size), gs, dr, tok, os⟩ :=
    I.laid (t' := tok) (a := hp.objs.size + 1) (o := exo (hp.objs.size + 1) C none) (h' := (hp.push (PySem.W.kdv_tup us)).push (PySem.HandSPX.excO C hp.objs.size)) kk hsz (exo_ok hget)
  have r2 : Vals [V.ref (hp.objs.size + 1), v] [Value.ref (hp.objs.size + 1), u] := .cons rfl (.cons r .nil)
  have hq : spI X.K f [V.ref (hp.objs.size + 1), v] (upd H (hp.objs.size + 1) (exo (hp.objs.size + 1) C none)) (fun x H' => x = .non ∧ ∃ dx, H dx = none ∧ dx ≠ hp.objs.size + 1 ∧ H' = upd (upd (upd H (hp.objs.size + 1) (exo (hp.objs.size + 1) C none)) dx (exd dx [(f, v)])) (hp.objs.size + 1) (exo (hp.objs.size + 1) C (some dx))) (fun _ _ _ => False) :=
    ⟨_, C, v, rfl, T, hno, upd_same, fun dx h1 h2 => ⟨rfl, dx, by rw [upd_ne h2] at h1; exact h1, h2, rfl⟩⟩
  have hin := I2.kIn
  refine wpAny_call (call_ownK F.excBase_ValueError (fun Y => PySem.HandSPX.refsVE_contains Y bm hbm) (I.kIn _ _ hC) (PySem.W.looks_findIn I.kIn iC) (fun self => PySem.W.bind_fn I.kIn self tI) hus
    (codeAny_mono (F1.run _ X.stack _ _ ⟨Value.ref (hp.objs.size + 1) :: us, kws⟩ [Value.ref (hp.objs.size + 1), u] _ _ (fun _ _ _ => False) (hr.make C us kws) (I2.env0.make C us kws) (hb _ (Value.ref (hp.objs.size + 1)) hin) r2 hq) fun rr s' hq' => ?_))
  cases rr with
  | error er => exact passes_call tk (E := fun _ _ _ => False) (fun _ _ _ _ z => z.elim) pins σ _ _ er s' I2 hq'
  | ok fl =>
    cases fl with
    | ret w =>
      obtain ⟨x, H', I3, rv, ev, dx, hdx, ne, rfl⟩ := I2.after hq'
      subst ev
      refine ⟨rv, .ref (hp.objs.size + 1), _, inv_xd I3 (dx := dx) (fs := [(f, v)]) (by rw [upd_ne ne, upd_same]), rfl, ?_⟩
      have eq : upd (upd (upd (upd H (hp.objs.size + 1) (exo (hp.objs.size + 1) C none)) dx (exd dx [(f, v)])) (hp.objs.size + 1) (exo (hp.objs.size + 1) C (some dx))) dx (.xd [(f, v)]) = upd (upd H (hp.objs.size + 1) (exo (hp.objs.size + 1) C (some dx))) dx (.xd [(f, v)]) := by
        funext b
        by_cases e1 : b = dx
        · rw [e1, upd_same, upd_same]
        · rw [upd_ne e1, upd_ne e1]
          by_cases e2 : b = hp.objs.size + 1
          · rw [e2, upd_same, upd_same]
          · rw [upd_ne e2, upd_ne e2, upd_ne e1, upd_ne e2]
      rw [eq]
      exact q _ dx hn hdx ne
    | next => exact False.elim hq'
    | brk => exact False.elim hq'
    | cont => exact False.elim hq'
end
end GW

set_option maxHeartbeats 2000000
/-! errors as values: made, asked for their class, their field read -/
namespace GW
open PySem PySem.Spec PyProof.Rows L2
section
variable {g : Gd} {X : Cx} {W : WX} {σ : St} {er : Er} {H H2 : Hp} {ρ : Ro} {μ : Mu} {c : Nat} {ow ow' : Addr → Prop} {av : Addr → Prop} {bl : List Str} {n : Nat} {N : List Str} {sc : Scope} {α β : Type} {tg iter : Expr}
/-- a value as it is -/
def toV1 : D → Option V
  | .non => some .non
  | .bl b => some (.bl b)
  | .int i => some (.int i)
  | .str s => some (.str s)
  | .any v => some v
  | .lab v _ => some v
  | _ => none
def ofV : V → D
  | .non => .non
  | .bl b => .bl b
  | .int i => .int i
  | .str s => .str s
  | v => .any v
theorem ofV_rep (v : V) : RepD g er c H ow v (ofV v) := by
  cases v with
  | non => exact .non
  | bl b => exact .bl b
  | int b => exact .int b
  | str b => exact .str b
  | _ => exact .any _
theorem toV1_rep {v w : V} {d : D} (h : RepD g er c H ow v d) (e : toV1 d = some w) : v = w := by
  unfold toV1 at e
  split at e <;> first | (cases e; cases h; rfl) | cases e
theorem toV1_o {v w : V} {d : D} (h : RepO g er c H ρ σ v d) (e : toV1 d = some w) : v = w := by
  have : RepV g er c (Ow ρ σ) H v d := by
    cases d with
    | own i => cases e
    | _ => exact h
  cases this with
  | d h => exact toV1_rep h e
  | sta => cases e
  | clo => cases e
theorem exo_P {a C : Addr} {od : Option Addr} : ∃ φ, exo a C od = .ext φ ∧ ExcP C od a φ := ⟨_, rfl, fun h ⟨t, e⟩ => ⟨_, _, e, ⟨rfl, rfl⟩, rfl⟩⟩
/-! ### made -/
/-- a class of errors with one field, called by position or by the field's name -/
structure ExcV (g : Gd) (X : Cx) (x f : Str) : Prop where
  ex : ∃ (C fI : Addr) (fd : FuncData) (ps : List Str), OexC X.K C ∧ PySem.W.findIn X.K (.ref C) "__init__" = some (some (.ref fI)) ∧ PySem.W.typeIn X.K (.ref fI) = some (.type "function") ∧ FnOk X.prog X.w X.K X.mg X.base (L2.CX X.prog X.w) 1 fI fd ps (spI X.K f) ∧ ps.length = 2 ∧ L2.Binds X.K fd ps []
    ∧ (∀ (s : Shared) (a u : Value), BindsTo s fd ⟨[a], [(f, u)]⟩ (ps.zip [a, u])) ∧ X.mg x = some (.ref C) ∧ PySem.W.findIn X.K (.ref C) f = some none
theorem ExcV.k {x f : Str} (K : ExcV g X x f) : ExcK g X x f := by
  obtain ⟨C, fI, fd, ps, h1, h2, h3, h4, _, h5, _, h6, h7⟩ := K.ex
  exact ⟨C, fI, fd, ps, h1, h2, h3, h4, h5, h6, h7⟩
def mkX (x f : Str) (d : D) (ρ : Ro) (μ : Mu) : Rs D := match toV1 d with
  | some v => .ok (.exc x [(f, v)]) ρ μ
  | none => .no
def evMkX (x f : Str) (fa : Ro → Mu → Rs D) : Ro → Mu → Rs D := fun ρ μ => (fa ρ μ).bind (mkX x f)
theorem mkX_end {x f : Str} {C a dx : Addr} {d : D} {v : V} {Q : VK} (hm : g.mg x = some (.ref C)) (E : RepEnv g er μ.ec H ρ σ) (P : HpOk g er H μ) (r : RepO g er μ.ec H ρ σ v d) (h : Den g W σ er H ρ μ (mkX x f d ρ μ) Q)
    (ha : H a = none) (hd : H dx = none) (ne : dx ≠ a) : Q (.ref a) (upd (upd H a (exo a C (some dx))) dx (.xd [(f, v)])) := by
  unfold mkX at h
  cases e : toV1 d with
  | none => rw [e] at h; exact h.elim
  | some w =>
    rw [e] at h
    cases toV1_o r e
    obtain ⟨φ, e1, e2⟩ := exo_P (a := a) (C := C) (od := some dx)
    have m1 := nx_new (o := exo a C (some dx)) E P ha (fun o' u z => exo_frz z)
    have hd' : upd H a (exo a C (some dx)) dx = none := by rw [upd_ne ne]; exact hd
    have m2 := nx_new (o := .xd [(f, v)]) m1.env m1.hp hd'
    exact h (.ref a) _ er (m1.trans m2) (.d (.exc hm (φ := φ) (by rw [upd_ne (Ne.symm ne), upd_same, e1]) e2 (by show _ = _; rw [upd_same])))
theorem OkE.newX {x f : Str} {e : Expr} {fe : Ro → Mu → Rs D} {p cp : Pos} (C : Cxt g bl n N sc X) (K : ExcV g X x f) (hn : 2 ≤ n) (hg : sc.names.lookup x = some .globalImplicit) (hd : (x == ("__debug__" : Str)) = false) (O : OkE g X e fe)
    (he : starEach [e] X.env = (false, eval e X.env) :: starEach [] X.env := by rfl) (hpl : (backTo cp (starEach [] X.env)).any (·.1) = false := by rfl) : OkE g X (.Call (.Name x p) [e] [] cp) (evMkX x f fe) := by
  intro av W σ er H ρ μ Z tk E P h pins s I
  obtain ⟨Cc, fI, fd, ps, T, iC, tI, F1, hp2, hb, _, hm, hno⟩ := K.ex
  refine wpAny_Call_Name_kw (ld_glob I (C.gl hg) hm ?_ hd)
  refine PySem.W.callWith_K (h₀ := X.base) I.ok.mod.kin T.kC ?_ he hpl
  refine thn ((pa_cons (peR (X := X) (e := e)) pa_nil he).run cp pins s σ H (fun vs H1 => ∃ v d ρ1 μ1 er1, vs = [v] ∧ RepEnv (g.at av) er1 μ1.ec H1 ρ1 σ ∧ HpOk (g.at av) er1 H1 μ1 ∧ RepO (g.at av) er1 μ1.ec H1 ρ1 σ v d ∧ Den (g.at av) W σ er1 H1 ρ1 μ1 (mkX x f d ρ1 μ1) Z) I (run_one O tk E P h fun d ρ1 μ1 v H1 er1 E1 P1 r1 h1 => ⟨v, d, ρ1, μ1, er1, rfl, E1, P1, r1, h1⟩)) fun us s1 ⟨vs, H1, I1, rv, v, d, ρ1, μ1, er1, ev, E1, P1, r1, h1⟩ => ⟨I1.kIn, ?_⟩
  subst ev
  obtain ⟨u, rfl, ru⟩ : ∃ u, us = [u] ∧ RelV v u := by
    cases rv with
    | cons r rr => cases rr; exact ⟨_, rfl, r⟩
  refine run_oexV T iC tI F1 (C.room.mono hn) tk hno (fun s' self hin => ?_) (by rw [sizeLine_eq]; simp) I1 ru fun a dx ha hdx ne => mkX_end (g := g.at av) (by show g.mg x = _; rw [← C.hm]; exact hm) E1 P1 r1 h1 ha hdx ne
  have := hb s' [self, u] hin (by rw [hp2]; rfl)
  simpa using this
theorem OkE.newXK {x f : Str} {e : Expr} {fe : Ro → Mu → Rs D} {p cp kp : Pos} (C : Cxt g bl n N sc X) (K : ExcV g X x f) (hn : 2 ≤ n) (hg : sc.names.lookup x = some .globalImplicit) (hd : (x == ("__debug__" : Str)) = false) (O : OkE g X e fe)
    (hall : (backToKw cp (keywordEach [⟨some f, e, kp⟩] X.env)).all (·.1.isSome) = true := by rfl) (hks : (backToKw cp (keywordEach [⟨some f, e, kp⟩] X.env)).filterMap (·.1) = [f] := by rfl)
    (hpl : ((backTo cp (starEach [] X.env)).any (·.1) || (backToKw cp (keywordEach [⟨some f, e, kp⟩] X.env)).any (·.1.isNone)) = false := by rfl) : OkE g X (.Call (.Name x p) [] [⟨some f, e, kp⟩] cp) (evMkX x f fe) := by
  intro av W σ er H ρ μ Z tk E P h pins s I
  obtain ⟨Cc, fI, fd, ps, T, iC, tI, F1, hp2, _, hb, hm, hno⟩ := K.ex
  refine wpAny_Call_Name_kw (ld_glob I (C.gl hg) hm ?_ hd)
  refine PySem.W.callWith_KW0 (h₀ := X.base) I.ok.mod.kin T.kC hall ?_ hpl
  refine thn ((pk_cons (X := X) (e := e) (peR (X := X) (e := e)) pk_nil).run cp pins s σ H (fun vs H1 => ∃ v d ρ1 μ1 er1, vs = [v] ∧ RepEnv (g.at av) er1 μ1.ec H1 ρ1 σ ∧ HpOk (g.at av) er1 H1 μ1 ∧ RepO (g.at av) er1 μ1.ec H1 ρ1 σ v d ∧ Den (g.at av) W σ er1 H1 ρ1 μ1 (mkX x f d ρ1 μ1) Z) I (run_one O tk E P h fun d ρ1 μ1 v H1 er1 E1 P1 r1 h1 => ⟨v, d, ρ1, μ1, er1, rfl, E1, P1, r1, h1⟩)) fun us s1 ⟨vs, H1, I1, rv, v, d, ρ1, μ1, er1, ev, E1, P1, r1, h1⟩ => ⟨I1.kIn, ?_⟩
  subst ev
  obtain ⟨u, rfl, ru⟩ : ∃ u, us = [u] ∧ RelV v u := by
    cases rv with
    | cons r rr => cases rr; exact ⟨_, rfl, r⟩
  rw [hks]
  exact run_oexV (us := []) (kws := [(f, u)]) T iC tI F1 (C.room.mono hn) tk hno (fun s' self _ => hb s' self u) (by rw [sizeLine_eq]; simp) I1 ru fun a dx ha hdx ne => mkX_end (g := g.at av) (by show g.mg x = _; rw [← C.hm]; exact hm) E1 P1 r1 h1 ha hdx ne
/-- a class of errors without __init__ of its own, called with nothing -/
structure Exc0 (g : Gd) (X : Cx) (x : Str) : Prop where
  ex : ∃ (C : Addr) (bmB : List Value) (B newId initId : String), ExcBaseFacts B newId initId bmB ∧ PySem.W.excIn X.K C bmB newId = true ∧ X.mg x = some (.ref C) ∧ PySem.W.keepIn X.K (.ref C) = true
theorem OkE.new0 {x : Str} {p cp : Pos} (C : Cxt g bl n N sc X) (K : Exc0 g X x) (hg : sc.names.lookup x = some .globalImplicit) (hd : (x == ("__debug__" : Str)) = false) : OkE g X (.Call (.Name x p) [] [] cp) (evK (.exc x [])) := by
  intro av W σ er H ρ μ Z tk E P h pins s I
  obtain ⟨Cc, bmB, B, newId, initId, F, q, hm, kC⟩ := K.ex
  refine wpAny_Call_Name_kw (ld_glob I (C.gl hg) hm ?_ hd)
  refine PySem.W.callWith_K0 I.kIn kC ?_
  show wpAny _ _ (PySem.call (.ref Cc) []) _ _ _
  obtain ⟨bm, N, nm, qn, bs, hdct, sn, sub, ab, col, dd, k0, k1, k2, k3, k5, mN, hC, hN, hni, T⟩ := exc_obj I.kIn q
  refine wpAny_call_exc_subT F T hC hN hni (fun h' a hm' => ?_) (by show 0 ≤ sizeLine; rw [sizeLine_eq]; omega)
  have hn : H a = none := I.hok.gone hm'.new
  obtain ⟨t, ht, _, _⟩ := hm'.there
  obtain ⟨φ, e1, e2⟩ := exo_P (a := a) (C := Cc) (od := none)
  have m1 := nx_new (o := exo a Cc none) E P hn (fun o' u z => exo_frz z)
  refine ⟨.ref a, upd H a (exo a Cc none), I.laidN hm'.keeps hm'.new hn (exo_ok ht), rfl, ?_⟩
  exact h (.ref a) _ er m1 (.d (.exc (by show g.mg x = _; rw [← C.hm]; exact hm) (φ := φ) (by rw [upd_same, e1]) e2 rfl))
end
end GW

set_option maxHeartbeats 2000000
/-! isinstance of an error, its field -/
namespace GW
open PySem PySem.Spec PyProof.Rows L2
section
variable {g : Gd} {X : Cx} {W : WX} {σ : St} {er : Er} {H H2 : Hp} {ρ : Ro} {μ : Mu} {c : Nat} {ow ow' : Addr → Prop} {av : Addr → Prop} {bl : List Str} {n : Nat} {N : List Str} {sc : Scope} {α β : Type} {tg iter : Expr}
/-- what a class of errors must say, so that isinstance asks its errors rightly -/
structure KitC (K : PySem.W.Frag) (C : Addr) : Prop where
  hcl : (PySem.W.clsIn K C).isSome = true
  hga : PySem.W.findIn K (.ref C) "__getattribute__" = some (some (.builtin "BaseException.__getattribute__"))
  hgt : PySem.W.findIn K (.ref C) "__getattr__" = some none
  hsub : PySem.W.subIn K (.ref C) (.type "BaseException") = some true
  ha : PySem.W.findIn K (.ref C) "__class__" = some (some (.builtin "object.__class__"))
  hn : PySem.W.specialIn K (.builtin "object.__class__") "__get__" = some (some (.builtin "getset_descriptor.__get__"))
  htk : PySem.W.takesIn K (.builtin "object.__class__") = some true
  hm : PySem.W.mroIn K C (.type "object") = some true
  hd : PySem.W.hasDictIn K C = true
theorem exc_inst {pins : List (Addr × Obj)} {s : Shared} {a C : Addr} {od : Option Addr} {φ : Heap → Prop} {fs : List (Str × V)} (I : Inv X pins σ H s) (h : H a = some (.ext φ)) (hp : ExcP C od a φ) (hd : ExcD H od fs) :
    ∃ ox od', PySem.W.InstAt s.heap a ox C od' ∧ ∀ f v, fs.lookup f = some v → ∃ o u, od' = some o ∧ PySem.W.lookIn f o = some (some u) ∧ RelV v u := by
  have hx : ObjOk X.prog X.w H s.heap a (.ext φ) := I.hok a _ h
  obtain ⟨oe, vs, e1, e2, e3⟩ := hp _ hx.1
  cases od with
  | none =>
    have : fs = [] := hd
    subst this
    refine ⟨oe, none, ⟨e1, e2.1, by unfold PySem.W.notCls; rw [e3] <;> rfl, by rw [e2.2]; trivial⟩, fun f v z => by cases z⟩
  | some dx =>
    have hd : H dx = some (.xd fs) := hd
    have hy : ObjOk X.prog X.w H s.heap dx (.xd fs) := I.hok dx _ hd
    obtain ⟨mA, hns, hr⟩ := hy
    obtain ⟨o, ho, hl⟩ := lookIn_ns hns
    refine ⟨oe, some o, ⟨e1, e2.1, by unfold PySem.W.notCls; rw [e3] <;> rfl, by rw [e2.2]; exact ho⟩, fun f v z => ?_⟩
    obtain ⟨u, hu, ru⟩ := RelO.some_of (v := v) (o := mA f) (by rw [← z]; exact hr f)
    exact ⟨o, u, rfl, by rw [hl, hu], ru⟩
def rIsX (K : PySem.W.Frag) : List V → Hp → VK → Prop := fun xs H Q => ∃ (a C : Addr) (cv : V) (u : Value) (b : Bool) (od : Option Addr) (φ : Heap → Prop) (fs : List (Str × V)), xs = [.ref a, cv] ∧ ClsV cv u ∧ H a = some (.ext φ) ∧ ExcP C od a φ ∧ ExcD H od fs ∧ KitC K C ∧ PySem.W.kitOne K (.ref C) u = some b ∧ Q (.bl b) H
theorem call_isX : CallR X (.builtin "isinstance") (rIsX X.K) := by
  intro pins s σ H xs us Q I r h
  obtain ⟨a, C, cv, u, b, od, φ, fs, rfl, k, h1, h2, h3, Kc, e, q⟩ := h
  obtain ⟨u1, u2, rfl, r1, r2⟩ := vals2 r
  have e2 := k.eq r2
  subst e2
  cases (show u1 = Value.ref a from r1)
  obtain ⟨ox, od', J, _⟩ := exc_inst I h1 h2 h3
  exact PySem.W.kia_one (PySem.W.kitx_exc Kc.hcl Kc.hga Kc.hgt Kc.hsub Kc.ha Kc.hn Kc.htk Kc.hm) I.kIn J e (fun z => nomatch z) fun tk => ⟨.bl b, H, I.tok tk, rfl, q⟩
def rIsXT (K : PySem.W.Frag) : List V → Hp → VK → Prop := fun xs H Q => ∃ (a C tp : Addr) (cs : List V) (us : List Value) (b : Bool) (od : Option Addr) (φ : Heap → Prop) (fs : List (Str × V)), xs = [.ref a, .ref tp] ∧ H tp = some (.tup cs) ∧ Paired ClsV cs us ∧ H a = some (.ext φ) ∧ ExcP C od a φ ∧ ExcD H od fs ∧ KitC K C ∧ PySem.W.kitAny K (.ref C) us = some b ∧ Q (.bl b) H
theorem call_isXT : CallR X (.builtin "isinstance") (rIsXT X.K) := by
  intro pins s σ H xs us Q I r h
  obtain ⟨a, C, tp, cs, ws, b, od, φ, fs, rfl, hT, k, h1, h2, h3, Kc, e, q⟩ := h
  obtain ⟨u1, u2, rfl, r1, r2⟩ := vals2 r
  cases (show u1 = Value.ref a from r1)
  cases (show u2 = Value.ref tp from r2)
  obtain ⟨ox, od', J, _⟩ := exc_inst I h1 h2 h3
  obtain ⟨_, its, rv, o, g1, g2, n, g3⟩ := (show ObjOk X.prog X.w H s.heap tp (.tup cs) from I.hok tp _ hT)
  have e3 := ClsV.all k rv
  subst e3
  obtain ⟨oc, od, dt, sl⟩ := o
  simp only at g2 g3
  subst g2 g3
  exact PySem.W.kia_tup (PySem.W.kitx_exc Kc.hcl Kc.hga Kc.hgt Kc.hsub Kc.ha Kc.hn Kc.htk Kc.hm) I.kIn J g1 e (fun z => nomatch z) fun tk => ⟨.bl b, H, I.tok tk, rfl, q⟩
/-- a name of a class: own, or built in -/
def CU (g : Gd) (x : Str) (u : Value) : Prop := (g.mg x = some u ∧ ∃ C, u = .ref C) ∨ (g.mg x = none ∧ ∃ T, u = .type T ∧ bootBuiltins x = some u)
structure ClsX (g : Gd) (X : Cx) (x : Str) : Prop where
  ex : ∃ cv u, TyNm X x cv u ∧ CU g x u
theorem Cxt.clsO {x : Str} {Cc : Addr} (C : Cxt g bl n N sc X) (hg : sc.names.lookup x = some .globalImplicit) (hd : (x == ("__debug__" : Str)) = false) (hm : g.mg x = some (.ref Cc)) : ClsX g X x :=
  ⟨.ref Cc, .ref Cc, ⟨.own Cc, fun pos => pe_glob (C.gl hg) (by rw [C.hm]; exact hm) rfl hd⟩, .inl ⟨hm, Cc, rfl⟩⟩
theorem Cxt.clsB {x : Str} {T : String} (C : Cxt g bl n N sc X) (hg : sc.names.lookup x = some .globalImplicit) (hm : g.mg x = none) (hv : bootBuiltins x = some (.type T)) (hn : x ≠ "__name__") (hd : (x == ("__debug__" : Str)) = false) : ClsX g X x :=
  ⟨.ty T, .type T, ⟨.ty T, fun pos => pe_bltn (C.gl hg) (by rw [C.hm]; exact hm) hv rfl hn hd⟩, .inr ⟨hm, T, rfl, hv⟩⟩
/-- the table of the classes: is an error of the class x one of the class y? -/
def TabX (g : Gd) (T : Str → Str → Option Bool) : Prop := ∀ x y b C u, T x y = some b → g.mg x = some (.ref C) → CU g y u → KitC g.K C ∧ PySem.W.kitOne g.K (.ref C) u = some b
def isX (T : Str → Str → Option Bool) (y : Str) : D → Option D
  | .exc x _ => (T x y).map .bl
  | _ => none
def evIsX (T : Str → Str → Option Bool) (y : Str) (f : Ro → Mu → Rs D) : Ro → Mu → Rs D := ev1 (fun _ d => isX T y d) f
theorem isX_some {T : Str → Str → Option Bool} {y : Str} {d e : D} (h : isX T y d = some e) : ∃ x fs b, d = .exc x fs ∧ T x y = some b ∧ e = .bl b := by
  unfold isX at h
  split at h
  · obtain ⟨b, h1, h2⟩ := Option.map_eq_some_iff.mp h
    exact ⟨_, _, b, rfl, h1, h2.symm⟩
  · cases h
theorem q_exc {v : V} {x : Str} {fs : List (Str × V)} (h : RepQ g er c H ow v (.exc x fs)) : ∃ a C od φ, v = .ref a ∧ g.mg x = some (.ref C) ∧ H a = some (.ext φ) ∧ ExcP C od a φ ∧ ExcD H od fs := by
  cases h with
  | v h =>
    cases h with
    | d h =>
      cases h with
      | exc h1 h2 h3 h4 => exact ⟨_, _, _, _, rfl, h1, h2, h3, h4⟩
theorem OkE.isx {T : Str → Str → Option Bool} {a : Expr} {f : Ro → Mu → Rs D} {y : Str} {p p2 pos : Pos} (C : Cxt g bl n N sc X) (TX : TabX g T) (hg : sc.names.lookup ("isinstance" : Str) = some .globalImplicit) (hb : ("isinstance" : Str) ∈ bl) (Tn : ClsX g X y) (O : OkE g X a f)
    (he : starEach [a, .Name y p2] X.env = (false, eval a X.env) :: starEach [.Name y p2] X.env := by rfl) : OkE g X (.Call (.Name "isinstance" p) [a, .Name y p2] [] pos) (evIsX T y f) := by
  intro av W σ er H ρ μ Q tk E P h
  obtain ⟨cv, u, Tm, cu⟩ := Tn.ex
  refine .of (pe_callB (call_isX (X := X)) (C.gl hg) (C.non hb) (by kernel_rfl) (pa_cons peR (pa_cons (Tm.pe _) pa_nil) he) (by decide +kernel) (by decide +kernel) he) (run_one O tk E P h fun x ρ1 μ1 v H1 er1 E1 P1 hx h1 => ?_)
  obtain ⟨y', d, e1, e2, h2⟩ := den_one h1
  obtain ⟨x', fs, b, rfl, e3, rfl⟩ := isX_some e2
  obtain ⟨a', Cc, od, φ, rfl, q1, q2, q3, q4⟩ := q_exc (rsv_ok E1 hx e1)
  obtain ⟨k1, k2⟩ := TX _ _ _ _ _ e3 q1 cu
  refine ⟨a', Cc, cv, u, b, od, φ, fs, rfl, Tm.cl, q2, q3, q4, by rw [C.hK]; exact k1, by rw [C.hK]; exact k2, den_d h2 E1 P1 (.bl _)⟩
inductive ClsXs (g : Gd) (X : Cx) : List Expr → List Str → Prop
  | nil : ClsXs g X [] []
  | cons {x : Str} {p : Pos} {es : List Expr} {xs : List Str} (h : ClsX g X x) (r : ClsXs g X es xs) : ClsXs g X (.Name x p :: es) (x :: xs)
theorem ClsXs.pa {es : List Expr} {xs : List Str} (h : ClsXs g X es xs) : ∃ (t : TA) (cs : List V) (us : List Value), PA X es t ∧ Paired ClsV cs us ∧ cs.length = xs.length ∧ Paired (CU g) xs us ∧ ∀ σ H Q, Q cs H → t σ H Q := by
  induction h with
  | nil => exact ⟨_, [], [], pa_nil, .nil, rfl, .nil, fun σ H Q q => q⟩
  | cons h r ih =>
    obtain ⟨t, cs, us, h1, h2, h3, h4, h5⟩ := ih
    obtain ⟨cv, u, Tm, cu⟩ := h.ex
    exact ⟨_, cv :: cs, u :: us, pa_cons (Tm.pe _) h1, .cons Tm.cl h2, by simp [h3], .cons cu h4, fun σ H Q q => h5 σ H _ q⟩
def isXs (T : Str → Str → Option Bool) : List Str → D → Option D
  | [], .exc _ _ => some (.bl false)
  | y :: ys, .exc x fs => match T x y with
    | some true => some (.bl true)
    | some false => isXs T ys (.exc x fs)
    | none => none
  | _, _ => none
def evIsXs (T : Str → Str → Option Bool) (ys : List Str) (f : Ro → Mu → Rs D) : Ro → Mu → Rs D := ev1 (fun _ d => isXs T ys d) f
theorem isXs_exc {T : Str → Str → Option Bool} {ys : List Str} {d e : D} (h : isXs T ys d = some e) : ∃ x fs, d = .exc x fs := by
  unfold isXs at h
  split at h <;> first | exact ⟨_, _, rfl⟩ | cases h
theorem isXs_kit {T : Str → Str → Option Bool} {x : Str} {fs : List (Str × V)} {C : Addr} (TX : TabX g T) (hx : g.mg x = some (.ref C)) : ∀ {ys : List Str} {us : List Value} {e : D}, Paired (CU g) ys us → isXs T ys (.exc x fs) = some e → ∃ b, e = .bl b ∧ PySem.W.kitAny g.K (.ref C) us = some b
  | [], _, e, .nil, h => by cases h; exact ⟨false, rfl, rfl⟩
  | y :: ys, _, e, .cons cu r, h => by
    simp only [isXs] at h
    cases q : T x y with
    | none => rw [q] at h; cases h
    | some b =>
      rw [q] at h
      have k2 := (TX _ _ _ _ _ q hx cu).2
      cases b with
      | true => cases h; exact ⟨true, rfl, kitAny_cons k2 (fun z => nomatch z) (fun _ => rfl)⟩
      | false =>
        obtain ⟨b, rfl, h3⟩ := isXs_kit TX hx r h
        exact ⟨b, rfl, kitAny_cons k2 (fun _ => h3) (fun z => nomatch z)⟩
theorem OkE.isxs {T : Str → Str → Option Bool} {a : Expr} {es : List Expr} {f : Ro → Mu → Rs D} {ys : List Str} {y0 : Str} {x1 : Nat} {p p2 pos : Pos} (C : Cxt g bl n N sc X) (TX : TabX g T) (hk : ∀ x b, T x y0 = some b → ∀ C, g.mg x = some (.ref C) → KitC g.K C) (hg : sc.names.lookup ("isinstance" : Str) = some .globalImplicit) (hb : ("isinstance" : Str) ∈ bl) (Tn : ClsXs g X es ys) (hl : ys.length ≤ 64) (hy : ys.head? = some y0) (O : OkE g X a f)
    (he : starEach [a, .Tuple es x1 p2] X.env = (false, eval a X.env) :: starEach [.Tuple es x1 p2] X.env := by rfl) : OkE g X (.Call (.Name "isinstance" p) [a, .Tuple es x1 p2] [] pos) (evIsXs T ys f) := by
  intro av W σ er H ρ μ Q tk E P h
  obtain ⟨t, cs, us, h1, h2, h3, h4, h5⟩ := Tn.pa
  refine .of (pe_callB (call_isXT (X := X)) (C.gl hg) (C.non hb) (by kernel_rfl) (pa_cons peR (pa_cons (pe_tup h1) pa_nil) he) (by decide +kernel) (by decide +kernel) he) (run_one O tk E P h fun x ρ1 μ1 v H1 er1 E1 P1 hx h6 => ?_)
  refine h5 _ _ _ ⟨by rw [h3, sizeLine_eq]; omega, fun q hq => ?_⟩
  obtain ⟨y', d, e1, e2, h7⟩ := den_one h6
  obtain ⟨x', fs, rfl⟩ := isXs_exc e2
  have n2 := nx_new (o := .tup cs) E1 P1 hq
  obtain ⟨a', Cc, od, φ, rfl, q1, q2, q3, q4⟩ := q_exc (rsv_ok n2.env (hx.nx n2 E1 P1) e1)
  obtain ⟨b, rfl, k2⟩ := isXs_kit TX q1 h4 e2
  have k1 : KitC g.K Cc := by
    cases ys with
    | nil => cases hy
    | cons y ys =>
      cases hy
      simp only [isXs] at e2
      cases z : T x' y0 with
      | none => rw [z] at e2; cases e2
      | some b => exact hk _ _ z _ q1
  exact ⟨a', Cc, q, cs, us, b, od, φ, fs, rfl, upd_same, h2, q2, q3, q4, by rw [C.hK]; exact k1, by rw [C.hK]; exact k2, h7.toG.ok' n2 _ (.d (.bl _))⟩
/-- errors of these classes have such a field of their own -/
def FldX (g : Gd) (f : Str) (l : List Str) : Prop := ∀ x ∈ l, ∀ C, g.mg x = some (.ref C) → KitC g.K C ∧ PySem.W.findIn g.K (.ref C) f = some none
def fldX (f : Str) (l : List Str) : D → Option D
  | .exc x fs => if x ∈ l then (fs.lookup f).map ofV else none
  | _ => none
def evFld (f : Str) (l : List Str) (fa : Ro → Mu → Rs D) : Ro → Mu → Rs D := ev1 (fun _ d => fldX f l d) fa
theorem OkE.fld {f : Str} {l : List Str} {a : Expr} {fa : Ro → Mu → Rs D} {pos : Pos} (C : Cxt g bl n N sc X) (F : FldX g f l) (O : OkE g X a fa) (hb : attributeBase a f X.env (eval a X.env) = eval a X.env := by rfl) : OkE g X (.Attribute a f pos) (evFld f l fa) := by
  intro av W σ er H ρ μ Q tk E P h pins s I
  refine attr_of hb (thn (run_one O tk E P h (R := fun v H1 => ∃ x ρ1 μ1 er1, RepEnv (g.at av) er1 μ1.ec H1 ρ1 σ ∧ HpOk (g.at av) er1 H1 μ1 ∧ RepO (g.at av) er1 μ1.ec H1 ρ1 σ v x ∧ Den (g.at av) W σ er1 H1 ρ1 μ1 (one (fun _ d => fldX f l d) x ρ1 μ1) Q) (fun x ρ1 μ1 v H1 er1 E1 P1 hx h1 => ⟨x, ρ1, μ1, er1, E1, P1, hx, h1⟩) pins s I) fun u s1 hh => ?_)
  obtain ⟨v, H1, I1, rv, x, ρ1, μ1, er1, E1, P1, hx, h1⟩ := hh
  obtain ⟨y', d, e1, e2, h2⟩ := den_one h1
  obtain ⟨x', fs, w, rfl, e3, e4, rfl⟩ : ∃ x' fs w, y' = .exc x' fs ∧ x' ∈ l ∧ fs.lookup f = some w ∧ d = ofV w := by
    unfold fldX at e2
    split at e2
    · split at e2
      · rename_i z
        obtain ⟨w, q1, q2⟩ := Option.map_eq_some_iff.mp e2
        exact ⟨_, _, w, rfl, z, q1, q2.symm⟩
      · cases e2
    · cases e2
  obtain ⟨a', Cc, od, φ, rfl, q1, q2, q3, q4⟩ := q_exc (rsv_ok E1 hx e1)
  obtain rfl : u = Value.ref a' := rv
  obtain ⟨k, hno⟩ := F _ e3 _ q1
  obtain ⟨ox, od', J, hl⟩ := exc_inst I1 q2 q3 q4
  obtain ⟨o, u, rfl, hu, ru⟩ := hl _ _ e4
  have hK : X.K = g.K := C.hK
  refine HandSPX.exc_get I1.kIn J (by rw [hK]; exact k.hga) (by rw [hK]; exact k.hgt) (by rw [hK]; exact k.hsub) (PySem.W.findObj_own (by rw [hK]; exact k.hd) (by rw [hK]; exact hno) rfl hu) (handed_of ru) ⟨w, H1, I1.tok _, ru, den_d h2 E1 P1 (ofV_rep w)⟩
end
end GW

set_option maxHeartbeats 2000000
/-! what the head can tell of classes of errors -/
namespace GW
open PySem PySem.Spec PyProof.Rows L2
theorem oexB_ok {K : PySem.W.Frag} {C : Addr} (h : oexB K C = true) : OexC K C := by
  obtain ⟨h1, h⟩ := He.ba h
  obtain ⟨h2, h⟩ := He.ba h
  obtain ⟨h3, h⟩ := He.ba h
  obtain ⟨h4, h5⟩ := He.ba h
  refine ⟨?_, He.eqO_ok h2, of_decide_eq_true h3, of_decide_eq_true h4, h5⟩
  split at h1
  · rename_i dd cd sl ho
    split at h1
    · rename_i C' bm k0 k1 k2 k3 n k5 hm hs
      simp only [Bool.and_eq_true, beq_iff_eq, Bool.not_eq_true'] at h1
      obtain ⟨⟨⟨⟨rfl, rfl⟩, hdel⟩, hhd⟩, hr⟩ := h1
      obtain ⟨nm, bs, mro, ns, qn, hd, sn, sub, ab, col, del⟩ := cd
      dsimp only at hm hdel hhd
      subst hm hdel hhd
      have hsl : sl = #[k0, k1, k2, k3, some (.builtin "ValueError.__new__"), k5] := by
        obtain ⟨l⟩ := sl
        simp only at hs
        rw [hs]
      subst hsl
      exact ⟨nm, qn, ns, bs, bm, sn, sub, ab, col, dd, k0, k1, k2, k3, k5, ho, hr⟩
    · cases h1
  · cases h1
theorem kitcB_ok {K : PySem.W.Frag} {C : Addr} (h : kitcB K C = true) : KitC K C := by
  obtain ⟨h1, h⟩ := He.ba h
  obtain ⟨h2, h⟩ := He.ba h
  obtain ⟨h3, h⟩ := He.ba h
  obtain ⟨h4, h⟩ := He.ba h
  obtain ⟨h5, h⟩ := He.ba h
  obtain ⟨h6, h⟩ := He.ba h
  obtain ⟨h7, h⟩ := He.ba h
  obtain ⟨h8, h9⟩ := He.ba h
  exact ⟨h1, He.eqO_ok h2, He.eqO_ok h3, of_decide_eq_true h4, He.eqO_ok h5, He.eqO_ok h6, of_decide_eq_true h7, of_decide_eq_true h8, h9⟩
theorem excB_ok {g : Gd} {X : Cx} {N : List Str} {x self f qual : Str} {params : Arguments} {body : List Stmt} {scope : Scope} {fd : FuncData} {p1 p2 p3 p4 : Pos} (h : excB X.K x f = true) (hm : X.mg x = some (.ref (He.ga X.K x)))
    (F : FunD X.K "__init__" qual params body scope [] [] (He.fAd X.K (x, some "__init__")) fd) (eb : body = [.Assign [.Attribute (.Name self p1) f p2] (.Name f p3) p4]) (S : FnScope [self, f] [self, f] scope)
    (h1 : (self == ("__debug__" : Str)) = false) (h2 : (self == ("__classdict__" : Str)) = false) (h3 : (f == ("__debug__" : Str)) = false) (h4 : (f == ("__classdict__" : Str)) = false) (v1 : Vis scope self) (v2 : Vis scope f)
    (hb : ∀ (kV doc pm : Value) (an : Option Addr) (cdv ct : Value) (us : List Value), us.length = 2 → bindArgs (PySem.W.fnOf "__init__" qual params body scope .none kV doc pm an cdv ct) ⟨us, []⟩ = pure ([self, f].zip us))
    (hk : ∀ (kV doc pm : Value) (an : Option Addr) (cdv ct : Value) (a u : Value), bindArgs (PySem.W.fnOf "__init__" qual params body scope .none kV doc pm an cdv ct) ⟨[a], [(f, u)]⟩ = pure ([self, f].zip [a, u])) : ExcV g X x f := by
  obtain ⟨q1, h⟩ := He.ba h
  obtain ⟨q2, h⟩ := He.ba h
  obtain ⟨q3, q4⟩ := He.ba h
  have bb := F.bindsN (ps := [self, f]) (fun kV doc pm an cdv ct us hl => hb kV doc pm an cdv ct us hl)
  obtain ⟨oc, od, dV, kV, doc, pm, an, cdv, ct, osl, rfl, lk, hcd, hD, hK⟩ := F.ex
  subst eb
  refine ⟨_, _, _, [self, f], oexB_ok q1, He.eqO_ok q2, of_decide_eq_true q3, init_fn lk hcd S h1 h2 h3 h4 v1 v2, rfl, bb, fun s a u => ?_, hm, He.eqO_ok q4⟩
  rcases hD with ⟨_, rfl⟩ | ⟨e, _⟩
  · exact .of_eq (hk kV doc pm an cdv ct a u)
  · exact absurd rfl e
theorem exc0B_ok {g : Gd} {X : Cx} {x : Str} (h : exc0B X.K x = true) (hm : X.mg x = some (.ref (He.ga X.K x))) : Exc0 g X x := by
  obtain ⟨q1, q2⟩ := He.ba h
  exact ⟨_, _, _, _, _, F.excBase_ValueError, q1, hm, q2⟩
theorem tabB_ok {g : Gd} {T : Str → Str → Option Bool} {xs : List Str} {ys : List (Str × Bool)} (h : tabB g.K T xs ys = true) (hx : ∀ x y b, T x y = some b → x ∈ xs ∧ ∃ o, (y, o) ∈ ys) (hm : ∀ x ∈ xs, g.mg x = some (.ref (He.ga g.K x)))
    (hy : ∀ y ∈ ys, ∀ u, CU g y.1 u → u = clsV g.K y) : TabX g T := fun x y b C u e hC cu => by
  obtain ⟨h1, o, h2⟩ := hx x y b e
  have hC' := (hm x h1).symm.trans hC
  cases hC'
  obtain ⟨k1, k2⟩ := He.ba (List.all_eq_true.mp h x h1)
  refine ⟨kitcB_ok k1, ?_⟩
  have k3 := List.all_eq_true.mp k2 _ h2
  simp only [e] at k3
  rw [hy _ h2 _ cu]
  exact of_decide_eq_true k3
end GW

set_option maxHeartbeats 2000000
/-! the rules as a printer wants them: what a name needs, in one Bool each -/
namespace GW
open PySem PySem.Spec PyProof.Rows L2
def locB (sc : Scope) (x : Str) : Bool := match sc.names.lookup x with
  | some .local => true
  | some .cell => true
  | _ => false
theorem locB_ok {sc : Scope} {x : Str} (h : locB sc x = true) : Loc sc x := by
  unfold locB at h
  split at h
  · rename_i e; exact .inl e
  · rename_i e; exact .inr e
  · cases h
def visB (sc : Scope) (x : Str) : Bool := match sc.names.lookup x with
  | some .local => true
  | some .cell => true
  | some .free => true
  | _ => false
theorem visB_ok {sc : Scope} {x : Str} (h : visB sc x = true) : Vis sc x := by
  unfold visB at h
  split at h
  · rename_i e; exact .inl e
  · rename_i e; exact .inr (.inl e)
  · rename_i e; exact .inr (.inr e)
  · cases h
/-- a name that is read -/
def nmB (N : List Str) (sc : Scope) (i : Nat) (x : Str) : Bool := decide (N[i]? = some x) && (visB sc x && (!(x == ("__debug__" : Str)) && !(x == ("__classdict__" : Str))))
theorem nmB_ok {N : List Str} {sc : Scope} {i : Nat} {x : Str} (h : nmB N sc i x = true) : N[i]? = some x ∧ Vis sc x ∧ (x == ("__debug__" : Str)) = false ∧ (x == ("__classdict__" : Str)) = false := by
  obtain ⟨h1, h⟩ := He.ba h
  obtain ⟨h2, h⟩ := He.ba h
  obtain ⟨h3, h4⟩ := He.ba h
  exact ⟨of_decide_eq_true h1, visB_ok h2, by simpa using h3, by simpa using h4⟩
/-- a name that is written -/
def nwB (N : List Str) (sc : Scope) (i : Nat) (x : Str) : Bool := decide (N[i]? = some x) && locB sc x
theorem nwB_ok {N : List Str} {sc : Scope} {i : Nat} {x : Str} (h : nwB N sc i x = true) : N[i]? = some x ∧ Loc sc x := ⟨of_decide_eq_true (He.ba h).1, locB_ok (He.ba h).2⟩
def nlB (N : List Str) (sc : Scope) (i : Nat) (x : Str) : Bool := decide (N[i]? = some x) && decide (sc.names.lookup x = some .local)
theorem nlB_ok {N : List Str} {sc : Scope} {i : Nat} {x : Str} (h : nlB N sc i x = true) : N[i]? = some x ∧ sc.names.lookup x = some .local := ⟨of_decide_eq_true (He.ba h).1, of_decide_eq_true (He.ba h).2⟩
/-- a name of the module -/
def gnB (sc : Scope) (x : Str) : Bool := decide (sc.names.lookup x = some .globalImplicit) && !(x == ("__debug__" : Str))
theorem gnB_ok {sc : Scope} {x : Str} (h : gnB sc x = true) : sc.names.lookup x = some .globalImplicit ∧ (x == ("__debug__" : Str)) = false := ⟨of_decide_eq_true (He.ba h).1, by simpa using (He.ba h).2⟩
/-- a built-in name -/
def bnB (sc : Scope) (bl : List Str) (x : Str) : Bool := decide (sc.names.lookup x = some .globalImplicit) && decide (x ∈ bl)
theorem bnB_ok {sc : Scope} {bl : List Str} {x : Str} (h : bnB sc bl x = true) : sc.names.lookup x = some .globalImplicit ∧ x ∈ bl := ⟨of_decide_eq_true (He.ba h).1, of_decide_eq_true (He.ba h).2⟩
section
variable {g : Gd} {X : Cx} {bl : List Str} {n : Nat} {N : List Str} {sc : Scope} {tg iter : Expr}
theorem OkE.nm {i : Nat} {x : Str} {pos : Pos} (C : Cxt g bl n N sc X) (h : nmB N sc i x = true) : OkE g X (.Name x pos) (evVar i) :=
  let ⟨h1, h2, h3, h4⟩ := nmB_ok h
  OkE.var (C.at h1) (by rw [C.hsc]; exact h2) h3 h4
theorem OkE.fun {np : Nat} {x : Str} {F : List D → Mu → Rf} {e : Expr} {es : List Expr} {fa : Ro → Mu → Rs (List D)} {p pos : Pos} (C : Cxt g bl n N sc X) (Fx : Fun g X n x np F) (h : gnB sc x = true) (Oa : OkA g X (e :: es) fa)
    (he : starEach (e :: es) X.env = (false, eval e X.env) :: starEach es X.env := by rfl) (hpl : (backTo pos (starEach es X.env)).any (·.1) = false := by rfl) : OkE g X (.Call (.Name x p) (e :: es) [] pos) (evCall np F fa) :=
  OkE.call C Fx (Nat.le_refl _) (gnB_ok h).1 (gnB_ok h).2 Oa he hpl
theorem OkE.new {x f : Str} {e : Expr} {fe : Ro → Mu → Rs D} {p cp : Pos} (C : Cxt g bl n N sc X) (K : ExcV g X x f) (hn : 2 ≤ n) (h : gnB sc x = true) (O : OkE g X e fe)
    (he : starEach [e] X.env = (false, eval e X.env) :: starEach [] X.env := by rfl) (hpl : (backTo cp (starEach [] X.env)).any (·.1) = false := by rfl) : OkE g X (.Call (.Name x p) [e] [] cp) (evMkX x f fe) :=
  OkE.newX C K hn (gnB_ok h).1 (gnB_ok h).2 O he hpl
theorem OkE.newK {x f : Str} {e : Expr} {fe : Ro → Mu → Rs D} {p cp kp : Pos} (C : Cxt g bl n N sc X) (K : ExcV g X x f) (hn : 2 ≤ n) (h : gnB sc x = true) (O : OkE g X e fe)
    (hall : (backToKw cp (keywordEach [⟨some f, e, kp⟩] X.env)).all (·.1.isSome) = true := by rfl) (hks : (backToKw cp (keywordEach [⟨some f, e, kp⟩] X.env)).filterMap (·.1) = [f] := by rfl)
    (hpl : ((backTo cp (starEach [] X.env)).any (·.1) || (backToKw cp (keywordEach [⟨some f, e, kp⟩] X.env)).any (·.1.isNone)) = false := by rfl) : OkE g X (.Call (.Name x p) [] [⟨some f, e, kp⟩] cp) (evMkX x f fe) :=
  OkE.newXK C K hn (gnB_ok h).1 (gnB_ok h).2 O hall hks hpl
theorem OkE.newZ {x : Str} {p cp : Pos} (C : Cxt g bl n N sc X) (K : Exc0 g X x) (h : gnB sc x = true) : OkE g X (.Call (.Name x p) [] [] cp) (evK (.exc x [])) := OkE.new0 C K (gnB_ok h).1 (gnB_ok h).2
section
variable {e : Expr} {es : List Expr} {p pos : Pos} {fa : Ro → Mu → Rs (List D)}
theorem OkE.len (C : Cxt g bl n N sc X) (h : bnB sc bl "len" = true) (O : OkA g X (e :: es) fa) (he : starEach (e :: es) X.env = (false, eval e X.env) :: starEach es X.env := by rfl) (hpl : (backTo pos (starEach es X.env)).any (·.1) = false := by rfl) : OkE g X (.Call (.Name "len" p) (e :: es) [] pos) (evC kLen fa) :=
  OkE.bi C bi_len (bnB_ok h).1 (bnB_ok h).2 (by kernel_rfl) (by decide +kernel) (by decide +kernel) O he hpl
theorem OkE.abs (C : Cxt g bl n N sc X) (h : bnB sc bl "abs" = true) (O : OkA g X (e :: es) fa) (he : starEach (e :: es) X.env = (false, eval e X.env) :: starEach es X.env := by rfl) (hpl : (backTo pos (starEach es X.env)).any (·.1) = false := by rfl) : OkE g X (.Call (.Name "abs" p) (e :: es) [] pos) (evC kAbs fa) :=
  OkE.bi C bi_abs (bnB_ok h).1 (bnB_ok h).2 (by kernel_rfl) (by decide +kernel) (by decide +kernel) O he hpl
theorem OkE.int_ (C : Cxt g bl n N sc X) (h : bnB sc bl "int" = true) (O : OkA g X (e :: es) fa) (he : starEach (e :: es) X.env = (false, eval e X.env) :: starEach es X.env := by rfl) (hpl : (backTo pos (starEach es X.env)).any (·.1) = false := by rfl) : OkE g X (.Call (.Name "int" p) (e :: es) [] pos) (evC kInt fa) :=
  OkE.ty C bi_int (bnB_ok h).1 (bnB_ok h).2 (by kernel_rfl) (by decide +kernel) (by decide +kernel) O he hpl
theorem OkE.str_ (C : Cxt g bl n N sc X) (h : bnB sc bl "str" = true) (O : OkA g X (e :: es) fa) (he : starEach (e :: es) X.env = (false, eval e X.env) :: starEach es X.env := by rfl) (hpl : (backTo pos (starEach es X.env)).any (·.1) = false := by rfl) : OkE g X (.Call (.Name "str" p) (e :: es) [] pos) (evC kStr fa) :=
  OkE.ty C bi_str (bnB_ok h).1 (bnB_ok h).2 (by kernel_rfl) (by decide +kernel) (by decide +kernel) O he hpl
theorem OkE.tuple_ (C : Cxt g bl n N sc X) (h : bnB sc bl "tuple" = true) (O : OkA g X (e :: es) fa) (he : starEach (e :: es) X.env = (false, eval e X.env) :: starEach es X.env := by rfl) (hpl : (backTo pos (starEach es X.env)).any (·.1) = false := by rfl) : OkE g X (.Call (.Name "tuple" p) (e :: es) [] pos) (evC kTuple fa) :=
  OkE.ty C bi_tuple (bnB_ok h).1 (bnB_ok h).2 (by kernel_rfl) (by decide +kernel) (by decide +kernel) O he hpl
theorem OkE.all_ (C : Cxt g bl n N sc X) (h : bnB sc bl "all" = true) (O : OkA g X (e :: es) fa) (he : starEach (e :: es) X.env = (false, eval e X.env) :: starEach es X.env := by rfl) (hpl : (backTo pos (starEach es X.env)).any (·.1) = false := by rfl) : OkE g X (.Call (.Name "all" p) (e :: es) [] pos) (evC kAll fa) :=
  OkE.bi C (bi_all C.calm) (bnB_ok h).1 (bnB_ok h).2 (by kernel_rfl) (by decide +kernel) (by decide +kernel) O he hpl
theorem OkE.any_ (C : Cxt g bl n N sc X) (h : bnB sc bl "any" = true) (O : OkA g X (e :: es) fa) (he : starEach (e :: es) X.env = (false, eval e X.env) :: starEach es X.env := by rfl) (hpl : (backTo pos (starEach es X.env)).any (·.1) = false := by rfl) : OkE g X (.Call (.Name "any" p) (e :: es) [] pos) (evC kAny fa) :=
  OkE.bi C (bi_any C.calm) (bnB_ok h).1 (bnB_ok h).2 (by kernel_rfl) (by decide +kernel) (by decide +kernel) O he hpl
theorem OkE.max_ (C : Cxt g bl n N sc X) (h : bnB sc bl "max" = true) (O : OkA g X (e :: es) fa) (he : starEach (e :: es) X.env = (false, eval e X.env) :: starEach es X.env := by rfl) (hpl : (backTo pos (starEach es X.env)).any (·.1) = false := by rfl) : OkE g X (.Call (.Name "max" p) (e :: es) [] pos) (evC kMax fa) :=
  OkE.bi C (bi_max C.calm) (bnB_ok h).1 (bnB_ok h).2 (by kernel_rfl) (by decide +kernel) (by decide +kernel) O he hpl
theorem OkE.min_ (C : Cxt g bl n N sc X) (h : bnB sc bl "min" = true) (O : OkA g X (e :: es) fa) (he : starEach (e :: es) X.env = (false, eval e X.env) :: starEach es X.env := by rfl) (hpl : (backTo pos (starEach es X.env)).any (·.1) = false := by rfl) : OkE g X (.Call (.Name "min" p) (e :: es) [] pos) (evC kMin fa) :=
  OkE.bi C (bi_min C.calm) (bnB_ok h).1 (bnB_ok h).2 (by kernel_rfl) (by decide +kernel) (by decide +kernel) O he hpl
theorem OkE.sum_ (C : Cxt g bl n N sc X) (h : bnB sc bl "sum" = true) (O : OkA g X (e :: es) fa) (he : starEach (e :: es) X.env = (false, eval e X.env) :: starEach es X.env := by rfl) (hpl : (backTo pos (starEach es X.env)).any (·.1) = false := by rfl) : OkE g X (.Call (.Name "sum" p) (e :: es) [] pos) (evC kSum fa) :=
  OkE.bi C (bi_sum C.calm) (bnB_ok h).1 (bnB_ok h).2 (by kernel_rfl) (by decide +kernel) (by decide +kernel) O he hpl
theorem OkN.list_ (C : Cxt g bl n N sc X) (h : bnB sc bl "list" = true) (O : OkA g X (e :: es) fa) (he : starEach (e :: es) X.env = (false, eval e X.env) :: starEach es X.env := by rfl) (hpl : (backTo pos (starEach es X.env)).any (·.1) = false := by rfl) : OkN g X (.Call (.Name "list" p) (e :: es) [] pos) (evCN kList fa) :=
  OkN.ty C (bi_list C.calm) (bnB_ok h).1 (bnB_ok h).2 (by kernel_rfl) (by decide +kernel) (by decide +kernel) O he hpl
theorem OkN.dict_ (C : Cxt g bl n N sc X) (h : bnB sc bl "dict" = true) (O : OkA g X (e :: es) fa) (he : starEach (e :: es) X.env = (false, eval e X.env) :: starEach es X.env := by rfl) (hpl : (backTo pos (starEach es X.env)).any (·.1) = false := by rfl) : OkN g X (.Call (.Name "dict" p) (e :: es) [] pos) (evCN kDict fa) :=
  OkN.ty C (bi_dict C.calm) (bnB_ok h).1 (bnB_ok h).2 (by kernel_rfl) (by decide +kernel) (by decide +kernel) O he hpl
theorem OkN.sorted_ (C : Cxt g bl n N sc X) (h : bnB sc bl "sorted" = true) (O : OkA g X (e :: es) fa) (he : starEach (e :: es) X.env = (false, eval e X.env) :: starEach es X.env := by rfl) (hpl : (backTo pos (starEach es X.env)).any (·.1) = false := by rfl) : OkN g X (.Call (.Name "sorted" p) (e :: es) [] pos) (evCN kSorted fa) :=
  OkN.bi C bi_sorted (bnB_ok h).1 (bnB_ok h).2 (by kernel_rfl) (by decide +kernel) (by decide +kernel) O he hpl
end
theorem OkE.stg {i k : Nat} {x : Str} {np kp pos : Pos} {j : Nat} (C : Cxt g bl n N sc X) (h : nmB N sc i x = true) : OkE g X (.Subscript (.Name x np) (.Constant (.int k) j kp) pos) (evStG i k) :=
  let ⟨h1, h2, h3, h4⟩ := nmB_ok h
  OkE.stG C h1 h2 h3 h4 (by intro o i; rfl)
theorem OkE.stp {i : Nat} {x : Str} {np kp ap p2 zp cp : Pos} {j jz : Nat} (C : Cxt g bl n N sc X) (h : nmB N sc i x = true)
    (hbase : attributeBase (.Subscript (.Name x np) (.Constant (.int 0) j kp) p2) "pop" X.env (eval (.Subscript (.Name x np) (.Constant (.int 0) j kp) p2) X.env) = eval (.Subscript (.Name x np) (.Constant (.int 0) j kp) p2) X.env := by rfl) (hline : (ap.endLine == cp.line) = true := by rfl) :
    OkE g X (.Call (.Attribute (.Subscript (.Name x np) (.Constant (.int 0) j kp) p2) "pop" ap) [.Constant (.int 0) jz zp] [] cp) (evStP i) :=
  let ⟨h1, h2, h3, h4⟩ := nmB_ok h
  OkE.stP C h1 h2 h3 h4 hbase hline
theorem OkT.stn {i : Nat} {x : Str} {np kp p2 lp cp : Pos} {j : Nat} (C : Cxt g bl n N sc X) (h : nmB N sc i x = true) : OkT g X (.Compare (.Subscript (.Name x np) (.Constant (.int 0) j kp) p2) [.NotEq] [.List [] lp] cp) (evStN i) :=
  let ⟨h1, h2, h3, h4⟩ := nmB_ok h
  OkT.stN C h1 h2 h3 h4
theorem OkS.to {i : Nat} {x : Str} {e : Expr} {f : Ro → Mu → Rs D} {pos pos' : Pos} (C : Cxt g bl n N sc X) (S : CxS X) (h : nwB N sc i x = true) (O : OkE g X e f) (hs : swapsWith e (some (.Name x pos')) pos.line X.env = pure false := by rfl) : OkS g X (.Assign [.Name x pos'] e pos) (sSet i f) :=
  OkS.set C S (nwB_ok h).1 (nwB_ok h).2 O hs
theorem OkS.toN {i : Nat} {x : Str} {e : Expr} {f : Ro → Mu → Rs NV} {pos pos' : Pos} (C : Cxt g bl n N sc X) (S : CxS X) (h : nwB N sc i x = true) (O : OkN g X e f) (hs : swapsWith e (some (.Name x pos')) pos.line X.env = pure false := by rfl) : OkS g X (.Assign [.Name x pos'] e pos) (sSetN i f) :=
  OkS.setN C S (nwB_ok h).1 (nwB_ok h).2 O hs
theorem OkG.nm_ {i : Nat} {x : Str} {pos : Pos} (C : Cxt g bl n N sc X) (S : CxS X) (h : nwB N sc i x = true) : OkG g X (.Name x pos) [i] (tNm i) := OkG.nm C (nwB_ok h).1 (nwB_ok h).2 (.inl (S.fn x))
theorem OkG.nl {i : Nat} {x : Str} {pos : Pos} (C : Cxt g bl n N sc X) (h : nlB N sc i x = true) : OkG g X (.Name x pos) [i] (tNm i) := OkG.nm C (nlB_ok h).1 (.inl (nlB_ok h).2) (.inr (by rw [C.hsc]; exact (nlB_ok h).2))
theorem Cxt.sw {α : Type} {P : Env → α} {r : α} (C : Cxt g bl n N sc X) (h : ∀ env : Env, P { env with scope := sc } = r) : P X.env = r := by
  have q := h X.env
  have e : ({ X.env with scope := sc } : Env) = X.env := by rw [← C.hsc]
  rw [e] at q
  exact q
theorem OkSs.no {st : List Stmt} : OkSs g X st (fun _ _ => .no) := fun _ _ _ _ _ _ _ _ _ _ _ h => h.elim
abbrev aNil : Ro → Mu → Rs (List D) := fun ρ μ => .ok [] ρ μ
section
variable {i : Nat} {x : Str} {e : Expr} {es : List Expr} {npos apos cpos : Pos} {fa : Ro → Mu → Rs (List D)}
theorem OkE.app (C : Cxt g bl n N sc X) (h : nmB N sc i x = true) (Oa : OkA g X (e :: es) fa)
    (hbase : attributeBase (.Name x npos) "append" X.env (eval (.Name x npos) X.env) = eval (.Name x npos) X.env := by rfl)
    (hfew : ((backTo cpos (starEach (e :: es) X.env)).all (fun x => !x.1) && (backToKw cpos (keywordEach [] X.env)).all (fun x => x.1.isSome)
      && decide ((e :: es).length + ([] : List Keyword).length + (if ([] : List Keyword).isEmpty then 0 else 1) < 30)) = true := by rfl)
    (hline : (apos.endLine == cpos.line) = true := by rfl) (hs : starEach (e :: es) X.env = (false, eval e X.env) :: starEach es X.env := by rfl) (hplain : (backTo cpos (starEach es X.env)).any (·.1) = false := by rfl) : OkE g X (.Call (.Attribute (.Name x npos) "append" apos) (e :: es) [] cpos) (evW i kAppend fa) :=
  let ⟨h1, h2, h3, h4⟩ := nmB_ok h
  OkE.mut PySem.F.slot_list_append PySem.F.type_list_append mw_append C.hK (C.at h1) (by rw [C.hsc]; exact h2) h3 h4 Oa hbase hfew hline hs hplain
theorem OkE.extd (C : Cxt g bl n N sc X) (h : nmB N sc i x = true) (Oa : OkA g X (e :: es) fa)
    (hbase : attributeBase (.Name x npos) "extend" X.env (eval (.Name x npos) X.env) = eval (.Name x npos) X.env := by rfl)
    (hfew : ((backTo cpos (starEach (e :: es) X.env)).all (fun x => !x.1) && (backToKw cpos (keywordEach [] X.env)).all (fun x => x.1.isSome)
      && decide ((e :: es).length + ([] : List Keyword).length + (if ([] : List Keyword).isEmpty then 0 else 1) < 30)) = true := by rfl)
    (hline : (apos.endLine == cpos.line) = true := by rfl) (hs : starEach (e :: es) X.env = (false, eval e X.env) :: starEach es X.env := by rfl) (hplain : (backTo cpos (starEach es X.env)).any (·.1) = false := by rfl) : OkE g X (.Call (.Attribute (.Name x npos) "extend" apos) (e :: es) [] cpos) (evW i kExtend fa) :=
  let ⟨h1, h2, h3, h4⟩ := nmB_ok h
  OkE.mut PySem.F.slot_list_extend PySem.F.type_list_extend mw_extend C.hK (C.at h1) (by rw [C.hsc]; exact h2) h3 h4 Oa hbase hfew hline hs hplain
theorem OkE.popI (C : Cxt g bl n N sc X) (h : nmB N sc i x = true) (Oa : OkA g X (e :: es) fa)
    (hbase : attributeBase (.Name x npos) "pop" X.env (eval (.Name x npos) X.env) = eval (.Name x npos) X.env := by rfl)
    (hfew : ((backTo cpos (starEach (e :: es) X.env)).all (fun x => !x.1) && (backToKw cpos (keywordEach [] X.env)).all (fun x => x.1.isSome)
      && decide ((e :: es).length + ([] : List Keyword).length + (if ([] : List Keyword).isEmpty then 0 else 1) < 30)) = true := by rfl)
    (hline : (apos.endLine == cpos.line) = true := by rfl) (hs : starEach (e :: es) X.env = (false, eval e X.env) :: starEach es X.env := by rfl) (hplain : (backTo cpos (starEach es X.env)).any (·.1) = false := by rfl) : OkE g X (.Call (.Attribute (.Name x npos) "pop" apos) (e :: es) [] cpos) (evW i kPopAt fa) :=
  let ⟨h1, h2, h3, h4⟩ := nmB_ok h
  OkE.mut PySem.F.slot_list_pop PySem.F.type_list_pop mw_popAt C.hK (C.at h1) (by rw [C.hsc]; exact h2) h3 h4 Oa hbase hfew hline hs hplain
end
/-! ### isinstance -/
theorem OkE.isT {a : Expr} {f : Ro → Mu → Rs D} {x : Str} {p p2 pos : Pos} (T : String) (C : Cxt g bl n N sc X) (h : bnB sc bl "isinstance" = true) (hx : bnB sc bl x = true) (hv : bootBuiltins x = some (.type T)) (hn : x ≠ "__name__") (hd : (x == ("__debug__" : Str)) = false) (hT : tyOk T = true) (O : OkE g X a f)
    (he : starEach [a, .Name x p2] X.env = (false, eval a X.env) :: starEach [.Name x p2] X.env := by rfl) : OkE g X (.Call (.Name "isinstance" p) [a, .Name x p2] [] pos) (evIsi T f) :=
  OkE.isi C (bnB_ok h).1 (bnB_ok h).2 (C.tyNm (bnB_ok hx).1 (bnB_ok hx).2 hv hn hd) hT O he
theorem TyNms.c {x : Str} {p : Pos} {es : List Expr} {Ts : List String} (T : String) (C : Cxt g bl n N sc X) (hx : bnB sc bl x = true) (hv : bootBuiltins x = some (.type T)) (hn : x ≠ "__name__") (hd : (x == ("__debug__" : Str)) = false) (hT : tyOk T = true) (r : TyNms X es Ts) : TyNms X (.Name x p :: es) (T :: Ts) := .cons (C.tyNm (bnB_ok hx).1 (bnB_ok hx).2 hv hn hd) hT r
theorem OkE.isTs {a : Expr} {es : List Expr} {f : Ro → Mu → Rs D} {Ts : List String} {x1 : Nat} {p p2 pos : Pos} (C : Cxt g bl n N sc X) (h : bnB sc bl "isinstance" = true) (Tn : TyNms X es Ts) (hl : Ts.length ≤ 64) (O : OkE g X a f)
    (he : starEach [a, .Tuple es x1 p2] X.env = (false, eval a X.env) :: starEach [.Tuple es x1 p2] X.env := by rfl) : OkE g X (.Call (.Name "isinstance" p) [a, .Tuple es x1 p2] [] pos) (evIsis Ts f) := OkE.isis C (bnB_ok h).1 (bnB_ok h).2 Tn hl O he
theorem Cxt.co {x : Str} (C : Cxt g bl n N sc X) (h : gnB sc x = true) (hm : ∃ Cc, g.mg x = some (.ref Cc)) : ClsX g X x := let ⟨_, hm⟩ := hm; C.clsO (gnB_ok h).1 (gnB_ok h).2 hm
theorem Cxt.cb {x : Str} (T : String) (C : Cxt g bl n N sc X) (h : bnB sc bl x = true) (hv : bootBuiltins x = some (.type T)) (hn : x ≠ "__name__") (hd : (x == ("__debug__" : Str)) = false) : ClsX g X x := C.clsB (bnB_ok h).1 (C.hbl _ (bnB_ok h).2) hv hn hd
theorem OkE.isE {T : Str → Str → Option Bool} {a : Expr} {f : Ro → Mu → Rs D} {y : Str} {p p2 pos : Pos} (C : Cxt g bl n N sc X) (TX : TabX g T) (h : bnB sc bl "isinstance" = true) (Tn : ClsX g X y) (O : OkE g X a f)
    (he : starEach [a, .Name y p2] X.env = (false, eval a X.env) :: starEach [.Name y p2] X.env := by rfl) : OkE g X (.Call (.Name "isinstance" p) [a, .Name y p2] [] pos) (evIsX T y f) := OkE.isx C TX (bnB_ok h).1 (bnB_ok h).2 Tn O he
theorem OkE.isEs {T : Str → Str → Option Bool} {a : Expr} {es : List Expr} {f : Ro → Mu → Rs D} {ys : List Str} {x1 : Nat} {p p2 pos : Pos} (y0 : Str) (C : Cxt g bl n N sc X) (TX : TabX g T) (hk : ∀ x b, T x y0 = some b → ∀ C, g.mg x = some (.ref C) → KitC g.K C) (h : bnB sc bl "isinstance" = true) (Tn : ClsXs g X es ys) (hl : ys.length ≤ 64) (hy : ys.head? = some y0) (O : OkE g X a f)
    (he : starEach [a, .Tuple es x1 p2] X.env = (false, eval a X.env) :: starEach [.Tuple es x1 p2] X.env := by rfl) : OkE g X (.Call (.Name "isinstance" p) [a, .Tuple es x1 p2] [] pos) (evIsXs T ys f) := OkE.isxs C TX hk (bnB_ok h).1 (bnB_ok h).2 Tn hl hy O he
/-! ### blocks -/
def blkB (N : List Str) (sc scope : Scope) (own : List (Str × Nat)) : Bool := decide (scope.kind = .function) && (scope.names.all (fun y => decide (scope.names.lookup y.1 = some y.2)) && (own.all (fun p => decide (N[p.2]? = some p.1)) && (scope.names.all (fun y => !decide (y.2 = .free) || (decide (sc.names.lookup y.1 = some .cell) || decide (sc.names.lookup y.1 = some .free)))
  && scope.names.all (fun y => !(decide (y.2 = .local) || decide (y.2 = .cell)) || (decide (y.1 ∈ own.map (·.1)) || !decide (y.1 ∈ N))))))
theorem blkB_ok {N : List Str} {sc scope : Scope} {own : List (Str × Nat)} (h : blkB N sc scope own = true) : BlkOk N sc scope own := by
  obtain ⟨h1, h⟩ := He.ba h
  obtain ⟨h2, h⟩ := He.ba h
  obtain ⟨h3, h⟩ := He.ba h
  obtain ⟨h4, h5⟩ := He.ba h
  refine ⟨of_decide_eq_true h1, fun y hy => of_decide_eq_true (List.all_eq_true.mp h2 y hy), fun p hp => of_decide_eq_true (List.all_eq_true.mp h3 p hp), fun y hy e => ?_, fun y hy e => ?_⟩
  · have q := List.all_eq_true.mp h4 y hy
    rw [e] at q
    simpa using q
  · have q := List.all_eq_true.mp h5 y hy
    have : (decide (y.2 = .local) || decide (y.2 = .cell)) = true := by simpa using e
    rw [this] at q
    simpa using q
theorem Fun.blk {k np : Nat} {x : Str} {F : List D → Mu → Rf} {s : Shared} {H : Hp} {scope : Scope} {ce : Env} {fp : List Addr} (h : Fun g X k x np F) : Fun g (X.blk s H scope ce fp) k x np F := ⟨h.ex⟩
theorem ExcV.blk {x f : Str} {s : Shared} {H : Hp} {scope : Scope} {ce : Env} {fp : List Addr} (h : ExcV g X x f) : ExcV g (X.blk s H scope ce fp) x f := ⟨h.ex⟩
theorem Exc0.blk {x : Str} {s : Shared} {H : Hp} {scope : Scope} {ce : Env} {fp : List Addr} (h : Exc0 g X x) : Exc0 g (X.blk s H scope ce fp) x := ⟨h.ex⟩
theorem OkS.lcs {elt : Expr} {ifs : List Expr} {scope : Scope} {is : List Nat} {i : Nat} {y : Str} {py pos spos : Pos} {fi : Ro → Mu → Rs (List D)} {t : D → Ro → Option Ro} {fc : Ro → Mu → Rs Bool} {fe : Ro → Mu → Rs D} (own : List (Str × Nat)) (Cc : Cxt g bl n N sc X) (ok : blkB N sc scope own = true) (Oi : OkI g X tg iter fi) (L : LcP g X tg ifs elt scope (own.map (·.2)) is t fc fe)
    (h : nlB N sc i y = true) (hsw : ∀ env : Env, swapsWith (.ListComp elt [⟨tg, iter, ifs, 0⟩] scope pos) (some (.Name y py)) spos.line { env with scope := sc } = pure true) (hs : ∀ x, foldedSetIterable iter X.env x = pure x := by intro _; rfl) : OkS g X (.Assign [.Name y py] (.ListComp elt [⟨tg, iter, ifs, 0⟩] scope pos) spos) (sSetN i (evLc fi t fc fe (own.map (·.2)))) :=
  OkS.lc Cc (nlB_ok h).1 (nlB_ok h).2 (blkB_ok ok) Oi L (Cc.sw (P := fun env => swapsWith (.ListComp elt [⟨tg, iter, ifs, 0⟩] scope pos) (some (.Name y py)) spos.line env) hsw) hs
theorem OkN.lcn {elt : Expr} {ifs : List Expr} {scope : Scope} {is : List Nat} {pos : Pos} {fi : Ro → Mu → Rs (List D)} {t : D → Ro → Option Ro} {fc : Ro → Mu → Rs Bool} {fe : Ro → Mu → Rs D} (own : List (Str × Nat)) (Cc : Cxt g bl n N sc X) (ok : blkB N sc scope own = true) (Oi : OkI g X tg iter fi) (L : LcP g X tg ifs elt scope (own.map (·.2)) is t fc fe)
    (hs : ∀ x, foldedSetIterable iter X.env x = pure x := by intro _; rfl) : OkN g X (.ListComp elt [⟨tg, iter, ifs, 0⟩] scope pos) (evLc fi t fc fe (own.map (·.2))) := OkN.lc Cc (blkB_ok ok) Oi L hs
theorem OkS.lcsK {elt : Expr} {ifs : List Expr} {scope : Scope} {is : List Nat} {i j : Nat} {x y : Str} {p py pos spos : Pos} {t : D → Ro → Option Ro} {fc : Ro → Mu → Rs Bool} {fe : Ro → Mu → Rs D} (own : List (Str × Nat)) (C : Cxt g bl n N sc X) (ok : blkB N sc scope own = true) (h : nmB N sc i x = true) (L : LcP g X tg ifs elt scope (own.map (·.2)) is t fc fe)
    (hy : nlB N sc j y = true) (hsw : ∀ env : Env, swapsWith (.ListComp elt [⟨tg, .Name x p, ifs, 0⟩] scope pos) (some (.Name y py)) spos.line { env with scope := sc } = pure true) (hs : ∀ z, foldedSetIterable (.Name x p) X.env z = pure z := by intro _; rfl) : OkS g X (.Assign [.Name y py] (.ListComp elt [⟨tg, .Name x p, ifs, 0⟩] scope pos) spos) (sSetN j (evLc (evK1 i) t fc fe (own.map (·.2)))) :=
  let ⟨h1, h2, h3, h4⟩ := nmB_ok h
  OkS.lcK C (nlB_ok hy).1 (nlB_ok hy).2 h1 h2 h3 h4 (blkB_ok ok) L (C.sw (P := fun env => swapsWith (.ListComp elt [⟨tg, .Name x p, ifs, 0⟩] scope pos) (some (.Name y py)) spos.line env) hsw) hs
theorem OkN.lcnK {elt : Expr} {ifs : List Expr} {scope : Scope} {is : List Nat} {i : Nat} {x : Str} {p pos : Pos} {t : D → Ro → Option Ro} {fc : Ro → Mu → Rs Bool} {fe : Ro → Mu → Rs D} (own : List (Str × Nat)) (C : Cxt g bl n N sc X) (ok : blkB N sc scope own = true) (h : nmB N sc i x = true) (L : LcP g X tg ifs elt scope (own.map (·.2)) is t fc fe)
    (hs : ∀ z, foldedSetIterable (.Name x p) X.env z = pure z := by intro _; rfl) : OkN g X (.ListComp elt [⟨tg, .Name x p, ifs, 0⟩] scope pos) (evLc (evK1 i) t fc fe (own.map (·.2))) :=
  let ⟨h1, h2, h3, h4⟩ := nmB_ok h
  OkN.lcK C h1 h2 h3 h4 (blkB_ok ok) L hs
theorem OkI.r1 {a : Expr} {f : Ro → Mu → Rs D} {p pos : Pos} (C : Cxt g bl n N sc X) (h : bnB sc bl "range" = true) (O : OkE g X a f) (hs : starEach [a] X.env = [(false, eval a X.env)] := by rfl) : OkI g X tg (.Call (.Name "range" p) [a] [] pos) (evR1 f) := OkI.range1 C (bnB_ok h).1 (bnB_ok h).2 O hs
theorem OkI.r2 {a b : Expr} {fa fb : Ro → Mu → Rs D} {p pos : Pos} (C : Cxt g bl n N sc X) (h : bnB sc bl "range" = true) (Oa : OkE g X a fa) (Ob : OkE g X b fb) (hs : starEach [a, b] X.env = [(false, eval a X.env), (false, eval b X.env)] := by rfl) (hs2 : starEach [b] X.env = [(false, eval b X.env)] := by rfl) : OkI g X tg (.Call (.Name "range" p) [a, b] [] pos) (evR2 fa fb) := OkI.range2 C (bnB_ok h).1 (bnB_ok h).2 Oa Ob hs hs2
theorem OkI.zp {a b : Expr} {f : Ro → Mu → Rs (List D)} {p pos tpos : Pos} {elts : List Expr} {kk : Nat} (C : Cxt g bl n N sc X) (h : bnB sc bl "zip" = true) (O : OkA g X [a, b] f)
    (hs : starEach [a, b] X.env = (false, eval a X.env) :: starEach [b] X.env := by rfl) (hpl : (backTo pos (starEach [b] X.env)).any (·.1) = false := by rfl) : OkI g X (.Tuple elts kk tpos) (.Call (.Name "zip" p) [a, b] [] pos) (evZip f) := OkI.zip C (bnB_ok h).1 (bnB_ok h).2 O hs hpl
theorem NmTs.c {x : Str} {i : Nat} {p : Pos} {es : List Expr} {is : List Nat} (h : nwB N sc i x = true) (r : NmTs N sc es is) : NmTs N sc (.Name x p :: es) (i :: is) := .cons (nwB_ok h).1 (nwB_ok h).2 r
theorem OkS.p2 {i j : Nat} {x y : Str} {a b : Expr} {f : Ro → Mu → Rs Fl} {px py pt pos : Pos} {kt k2 : Nat} {pt2 : Pos} (C : Cxt g bl n N sc X) (hi : nlB N sc i x = true) (hj : nlB N sc j y = true) (hij : i ≠ j) (O : OkP g X [a, b] [i, j] f) (hf : ∀ ρ μ d ρ' μ', f ρ μ ≠ .ok (.rt d) ρ' μ')
    (hw : ∀ env : Env, swappedStores [.Tuple [.Name x px, .Name y py] kt pt] (.Tuple [a, b] k2 pt2) { env with scope := sc } = pure (some [x, y]))
    (hs : swapsWithSole [.Tuple [.Name x px, .Name y py] kt pt] (.Tuple [a, b] k2 pt2) pos.line X.env = pure false := by rfl) :
    OkS g X (.Assign [.Tuple [.Name x px, .Name y py] kt pt] (.Tuple [a, b] k2 pt2) pos) f :=
  OkS.par2 C (nlB_ok hi).1 (nlB_ok hj).1 hij (nlB_ok hi).2 (nlB_ok hj).2 O hf (C.sw (P := fun env => swappedStores [.Tuple [.Name x px, .Name y py] kt pt] (.Tuple [a, b] k2 pt2) env) hw) hs
theorem OkS.sts {i k : Nat} {x : Str} {np kp p2 pos : Pos} {j : Nat} {e : Expr} {f : Ro → Mu → Rs D} (C : Cxt g bl n N sc X) (h : nmB N sc i x = true) (O : OkE g X e f)
    (ha : ∀ v, assign (.Subscript (.Name x np) (.Constant (.int k) j kp) p2) X.env v = (do
      let ov ← holding [v] (eval (.Name x np) X.env)
      let iv ← holding [v, ov] (eval (.Constant (.int k) j kp) X.env)
      standAt p2
      holding [v, ov, iv] (setItem ov iv v)
      release [v, ov, iv] []) := by intro _; rfl)
    (hs : swapsWithSole [.Subscript (.Name x np) (.Constant (.int k) j kp) p2] e pos.line X.env = pure false := by rfl) (hw : swappedStores [.Subscript (.Name x np) (.Constant (.int k) j kp) p2] e X.env = pure none := by rfl)
    (h1 : (assignEach [.Subscript (.Name x np) (.Constant (.int k) j kp) p2] X.env).map (·.2) = [assign (.Subscript (.Name x np) (.Constant (.int k) j kp) p2) X.env] := by rfl) : OkS g X (.Assign [.Subscript (.Name x np) (.Constant (.int k) j kp) p2] e pos) (sStS i k f) :=
  let ⟨h1', h2, h3, h4⟩ := nmB_ok h
  OkS.stS C h1' h2 h3 h4 O ha hs hw h1
end
end GW

set_option maxHeartbeats 2000000
/-! plain lemmas: what == takes, the draws -/
namespace GW
open PySem PySem.Spec PyProof.Rows L2
mutual
/-- nested k deep at most, for == -/
def sh : Nat → D → Bool
  | _, .non => true
  | _, .bl _ => true
  | _, .int _ => true
  | _, .str s => PyData.canLay0 (.str s)
  | k + 1, .tup xs => shs k xs
  | k + 1, .lst _ xs => shs k xs
  | _, _ => false
def shs : Nat → List D → Bool
  | _, [] => true
  | k, d :: ds => sh k d && shs k ds
end
mutual
theorem sh_p : ∀ (k : Nat) (d : D), sh k d = true → ∃ p, toP d = some p ∧ PyData.canLay0 p = true ∧ p.depth ≤ k
  | k, .non, _ => ⟨_, rfl, rfl, by simp [PyData.depth]⟩
  | k, .bl _, _ => ⟨_, rfl, rfl, by simp [PyData.depth]⟩
  | k, .int _, _ => ⟨_, rfl, rfl, by simp [PyData.depth]⟩
  | k, .str s, h => ⟨_, rfl, by cases k <;> exact h, by simp [PyData.depth]⟩
  | 0, .tup _, h => by simp [sh] at h
  | k + 1, .tup xs, h => by
    obtain ⟨ps, h1, h2, h3⟩ := shs_p k xs (by simpa [sh] using h)
    exact ⟨.tuple ps, by simp [toP, h1], by simpa [PyData.canLay0] using h2, by simp [PyData.depth]; omega⟩
  | 0, .lst _ _, h => by simp [sh] at h
  | k + 1, .lst _ xs, h => by
    obtain ⟨ps, h1, h2, h3⟩ := shs_p k xs (by simpa [sh] using h)
    exact ⟨.list ps, by simp [toP, h1], by simpa [PyData.canLay0] using h2, by simp [PyData.depth]; omega⟩
  | k, .dic _ _, h => by cases k <;> simp [sh] at h
  | k, .fn _, h => by cases k <;> simp [sh] at h
  | k, .clo _ _, h => by cases k <;> simp [sh] at h
  | k, .sta, h => by cases k <;> simp [sh] at h
  | k, .own _, h => by cases k <;> simp [sh] at h
  | k, .any _, h => by cases k <;> simp [sh] at h
  | k, .lab _ _, h => by cases k <;> simp [sh] at h
  | k, .exc _ _, h => by cases k <;> simp [sh] at h
theorem shs_p : ∀ (k : Nat) (ds : List D), shs k ds = true → ∃ ps, toPs ds = some ps ∧ PyData.canLayAll0 ps = true ∧ PyData.depthAll ps ≤ k
  | k, [], _ => ⟨[], rfl, rfl, by simp [PyData.depthAll]⟩
  | k, d :: ds, h => by
    have h : sh k d = true ∧ shs k ds = true := by simpa [shs] using h
    obtain ⟨p, h1, h2, h3⟩ := sh_p k d h.1
    obtain ⟨ps, h4, h5, h6⟩ := shs_p k ds h.2
    exact ⟨p :: ps, by simp [toPs, h1, h4], by simp [PyData.canLayAll0, h2, h5], by simp [PyData.depthAll]; omega⟩
end
theorem shp_of {d : D} (h : sh 64 d = true) : shp d = true := by
  obtain ⟨p, h1, h2, h3⟩ := sh_p 64 d h
  unfold shp
  rw [h1]
  simp [SeqAt.shaped, h2, h3]
theorem shs_ints (k : Nat) : ∀ l : List Int, shs k (l.map D.int) = true
  | [] => by simp [shs]
  | i :: l => by simp [shs, sh, shs_ints k l]
theorem eq_lst {a b : Nat} {xs ys : List D} (h1 : sh 64 (.lst a xs) = true) (h2 : sh 64 (.lst b ys) = true) : opEq (.lst a xs) (.lst b ys) = some (deqs xs ys) := by
  unfold opEq
  simp only [shp_of h1, shp_of h2, Bool.and_self, if_true, deq]
theorem deqs_refl_int : ∀ l : List Int, deqs (l.map D.int) (l.map D.int) = true
  | [] => rfl
  | i :: l => by simp [deqs, deq, deqs_refl_int l]

/-! ### the draws -/
def pickW : Ro → Mu → Rs Fl := whR (boT .And (toT (ev2 (cmpK .Eq) (evStG 0 1) (evK (.int 0)))) (evStN 0)) (sCons (sSet 3 (evC kAbs (aCons (evStP 0) (aNil))))
  (sCons (sStS 0 3 (ev2 (fun c x y => opBin c .Mod x y) (evC kInt (aCons (ev2 (fun c x y => opBin c .Add x y) (ev2 (fun c x y => opBin c .Add x y) (ev2 (fun c x y => opBin c .Mult x y) (evStG 0 3) (evK (.int 6151))) (evVar 3)) (evK (.int 5))) (aNil))) (evK (.int 2147483647))))
  (sCons (sStS 0 1 (evIte (toT (ev2 (cmpK .GtE) (evVar 3) (ev2 (fun c x y => opBin c .Pow x y) (evK (.int 10)) (evK (.int 18))))) (evVar 3) (evK (.int 0))))
  (sNil)))) 70
def pickB : Ro → Mu → Rs Fl := sCons (sStS 0 2 (ev2 (fun c x y => opBin c .Add x y) (evStG 0 2) (evK (.int 1))))
  (sCons pickW
  (sCons (sIf (toT (ev2 (cmpK .Gt) (evStG 0 1) (evK (.int 0)))) (sCons (sSet 4 (ev2 (fun c x y => opBin c .Mod x y) (evC kInt (aCons (evStG 0 1) (aNil))) (evVar 1)))
  (sCons (sStS 0 1 (ev2 (fun c x y => opBin c .FloorDiv x y) (evStG 0 1) (evVar 1)))
  (sCons (sRet (evVar 4))
  (sNil)))) (sNil))
  (sCons (sSet 2 (ev2 (fun c x y => opBin c .Mod x y) (evC kInt (aCons (ev2 (fun c x y => opBin c .Pow x y) (ev2 (fun c x y => opBin c .Add x y) (ev2 (fun c x y => opBin c .Add x y) (evStG 0 3) (ev2 (fun c x y => opBin c .Mult x y) (evK (.int 7907)) (evStG 0 2))) (evK (.int 104723))) (evK (.int 5))) (aNil))) (evK (.int 2147483629))))
  (sCons (sRet (ev2 (fun c x y => opBin c .Mod x y) (ev2 (fun c x y => opBin c .Mod x y) (evC kInt (aCons (ev2 (fun c x y => opBin c .Pow x y) (ev2 (fun c x y => opBin c .Add x y) (ev2 (fun c x y => opBin c .Add x y) (ev2 (fun c x y => opBin c .Mult x y) (evVar 2) (evK (.int 48271))) (ev2 (fun c x y => opBin c .Mult x y) (evK (.int 30011)) (evStG 0 2))) (evK (.int 31))) (evK (.int 3))) (aNil))) (evK (.int 1000000007))) (evVar 1)))
  (sNil)))))
section
variable {μ : Mu} {m : Int} {x2 x3 x4 : SV}
/-- the loop ends with no more cells, or a great one -/
theorem pickW_ok (hm : MuOk μ) : ∃ y3 μ', pickW [.val .sta, .val (.int m), x2, x3, x4] μ = .ok .nx [.val .sta, .val (.int m), x2, y3, x4] μ' ∧ MuOk μ' ∧ μ'.cnt = μ.cnt ∧ μ'.ec = μ.ec := by
  have key : ∀ (k : Nat) (μ : Mu) (x3 : SV), MuOk μ → μ.cells.length < k → ∃ y3 μ', whR (boT .And (toT (ev2 (cmpK .Eq) (evStG 0 1) (evK (.int 0)))) (evStN 0)) (sCons (sSet 3 (evC kAbs (aCons (evStP 0) (aNil))))
      (sCons (sStS 0 3 (ev2 (fun c x y => opBin c .Mod x y) (evC kInt (aCons (ev2 (fun c x y => opBin c .Add x y) (ev2 (fun c x y => opBin c .Add x y) (ev2 (fun c x y => opBin c .Mult x y) (evStG 0 3) (evK (.int 6151))) (evVar 3)) (evK (.int 5))) (aNil))) (evK (.int 2147483647))))
      (sCons (sStS 0 1 (evIte (toT (ev2 (cmpK .GtE) (evVar 3) (ev2 (fun c x y => opBin c .Pow x y) (evK (.int 10)) (evK (.int 18))))) (evVar 3) (evK (.int 0))))
      (sNil)))) k [.val .sta, .val (.int m), x2, x3, x4] μ = .ok .nx [.val .sta, .val (.int m), x2, y3, x4] μ' ∧ MuOk μ' ∧ μ'.cnt = μ.cnt ∧ μ'.ec = μ.ec := by
    intro k
    induction k with
    | zero => intro μ x3 _ h; omega
    | succ k ih =>
      intro μ x3 hm hl
      rw [whR]
      obtain ⟨cells, big, cnt, seed, ec⟩ := μ
      by_cases hb : big = 0
      · cases cells with
        | nil =>
          refine ⟨x3, _, ?_, hm, rfl, rfl⟩
          have e0 : opEq (.lst 0 ([] : List D)) (.lst 0 []) = some true := by
            rw [eq_lst (by simp [sh, shs]) (by simp [sh, shs])]; rfl
          simp [boT, toT, ev2, evStG, isSta, stV, evK, two, rsv, ret, cmpK, opCmp, opEq, hb, truR, tru, evStN, shp, toP, toPs, deq, deqs]
          simp [SeqAt.shaped, PyData.canLay0, PyData.canLayAll0, PyData.depth, PyData.depthAll]
        | cons z cells =>
          have hz : z.natAbs < 2 ^ 1048576 := hm.bits z (by simp)
          obtain ⟨c, hc⟩ : ∃ c : Int, c = (z.natAbs : Int) := ⟨_, rfl⟩
          have az : (if z < 0 then -z else z) = c := by rw [hc]; split <;> omega
          have hz0 : (0 : Int) ≤ c := by omega
          have hz1 : c < bigB := by
            unfold bigB
            have : ((z.natAbs : Nat) : Int) < ((2 ^ 1048576 : Nat) : Int) := by exact_mod_cast hz
            rw [Int.natCast_pow] at this
            rw [hc]
            exact this
          clear hc
          have t1 : opEq (.lst 0 ((z :: cells).map D.int)) (.lst 0 []) = some false := by
            rw [eq_lst (by simp only [sh]; exact shs_ints _ _) (by simp [sh, shs])]; rfl
          have s3 : (0 : Int) ≤ (seed * 6151 + c + 5) % 2147483647 ∧ (seed * 6151 + c + 5) % 2147483647 < 2 ^ 31 := by
            refine ⟨Int.emod_nonneg _ (by omega), ?_⟩
            have := Int.emod_lt_of_pos (seed * 6151 + c + 5) (b := 2147483647) (by omega)
            omega
          obtain ⟨big', hb'⟩ : ∃ b : Int, b = if 1000000000000000000 ≤ c then c else 0 := ⟨_, rfl⟩
          have b0 : 0 ≤ big' ∧ big' < bigB := by
            rw [hb']
            split
            · exact ⟨hz0, hz1⟩
            · exact ⟨by omega, Int.lt_of_le_of_lt hz0 hz1⟩
          have m' : MuOk ⟨cells, big', cnt, (seed * 6151 + c + 5) % 2147483647, ec⟩ :=
            ⟨by have := hm.n; simp at this ⊢; omega, fun i hi => hm.bits i (by simp [hi]), b0.1, b0.2, hm.c0, hm.c1, s3.1, s3.2⟩
          obtain ⟨y3, μ', h1, h2, h3, h4⟩ := ih ⟨cells, big', cnt, (seed * 6151 + c + 5) % 2147483647, ec⟩ (.val (.int c)) m' (by simp at hl ⊢; omega)
          refine ⟨y3, μ', ?_, h2, h3, h4⟩
          rw [← h1]
          have e1 : (boT .And (toT (ev2 (cmpK .Eq) (evStG 0 1) (evK (.int 0)))) (evStN 0)) [.val .sta, .val (.int m), x2, x3, x4] ⟨z :: cells, big, cnt, seed, ec⟩ = .ok true [.val .sta, .val (.int m), x2, x3, x4] ⟨z :: cells, big, cnt, seed, ec⟩ := by
            have oi : opEq (.int big) (.int 0) = some true := by show some (big == 0) = _; rw [hb]; rfl
            simp only [boT, toT, ev2, evStG, isSta, stV, evK, two, rsv, ret, cmpK, opCmp, oi, truR, tru, evStN, t1, List.getElem?_cons_zero, if_true, Rs.bind_ok, Option.map_some, Bool.not_false]
          rw [e1]
          have e2 : ∀ r : Ro → Mu → Rs Fl, sCons (sSet 3 (evC kAbs (aCons (evStP 0) (aNil)))) r [.val .sta, .val (.int m), x2, x3, x4] ⟨z :: cells, big, cnt, seed, ec⟩ = r [.val .sta, .val (.int m), x2, .val (.int c), x4] ⟨cells, big, cnt, seed, ec⟩ := fun r => by
            simp only [sCons, sSet, evC, aCons, evStP, isSta, rsvs, rsv, kAbs, az, ret, datR, fz, show isDat (.int c) = true from rfl, List.getElem?_cons_zero, if_true, Rs.bind_ok, List.set_cons_succ, List.set_cons_zero]
          have e3 : ∀ r : Ro → Mu → Rs Fl, sCons (sStS 0 3 (ev2 (fun c x y => opBin c .Mod x y) (evC kInt (aCons (ev2 (fun c x y => opBin c .Add x y) (ev2 (fun c x y => opBin c .Add x y) (ev2 (fun c x y => opBin c .Mult x y) (evStG 0 3) (evK (.int 6151))) (evVar 3)) (evK (.int 5))) (aNil))) (evK (.int 2147483647)))) r
              [.val .sta, .val (.int m), x2, .val (.int c), x4] ⟨cells, big, cnt, seed, ec⟩ = r [.val .sta, .val (.int m), x2, .val (.int c), x4] ⟨cells, big, cnt, (seed * 6151 + c + 5) % 2147483647, ec⟩ := fun r => by
            have mb : mulB seed 6151 = true := by simp [mulB]
            simp only [sCons, sStS, ev2, evC, aCons, evStG, isSta, stV, evK, two, rsv, rsvs, ret, opBin, evVar, kInt, mb, List.getElem?_cons_zero, List.getElem?_cons_succ, Rs.bind_ok, if_true]
            have hs : stOk 3 ((seed * 6151 + c + 5) % 2147483647) = true := by
              unfold stOk
              exact Bool.and_eq_true_iff.mpr ⟨decide_eq_true s3.1, decide_eq_true s3.2⟩
            have hp : decide ((0 : Int) < 2147483647) = true := rfl
            simp only [hp, if_true, Rs.bind_ok, hs, stS]
            rfl
          have e4 : ∀ r : Ro → Mu → Rs Fl, sCons (sStS 0 1 (evIte (toT (ev2 (cmpK .GtE) (evVar 3) (ev2 (fun c x y => opBin c .Pow x y) (evK (.int 10)) (evK (.int 18))))) (evVar 3) (evK (.int 0)))) r
              [.val .sta, .val (.int m), x2, .val (.int c), x4] ⟨cells, big, cnt, (seed * 6151 + c + 5) % 2147483647, ec⟩ = r [.val .sta, .val (.int m), x2, .val (.int c), x4] ⟨cells, big', cnt, (seed * 6151 + c + 5) % 2147483647, ec⟩ := fun r => by
            have cd : decide ((0 : Int) ≤ 18 ∧ (18 : Int) ≤ 1000000 ∧ (10 : Int).natAbs < 2 ^ 64) = true := by decide
            have cp : ((10 : Int) ^ (18 : Int).toNat) = 10 ^ 18 := rfl
            have hite : evIte (toT (ev2 (cmpK .GtE) (evVar 3) (ev2 (fun c x y => opBin c .Pow x y) (evK (.int 10)) (evK (.int 18))))) (evVar 3) (evK (.int 0)) [.val .sta, .val (.int m), x2, .val (.int c), x4] ⟨cells, big, cnt, (seed * 6151 + c + 5) % 2147483647, ec⟩
                = .ok (.int big') [.val .sta, .val (.int m), x2, .val (.int c), x4] ⟨cells, big, cnt, (seed * 6151 + c + 5) % 2147483647, ec⟩ := by
              simp only [evIte, toT, ev2, evVar, evK, List.getElem?_cons_zero, List.getElem?_cons_succ, Rs.bind_ok, two, rsv, opBin, cd, if_true, ret, cmpK, opCmp, Option.map_some, truR, tru, cp, hb']
              by_cases q : (1000000000000000000 : Int) ≤ c
              · have q' : decide ((10 : Int) ^ 18 ≤ c) = true := decide_eq_true q
                simp only [q, if_true, Rs.bind_ok]
                rw [if_pos q']
              · have q' : ¬ decide ((10 : Int) ^ 18 ≤ c) = true := fun z => q (of_decide_eq_true z)
                simp only [q, if_false, Rs.bind_ok]
                rw [if_neg q']
            have hs : stOk 1 big' = true := by
              unfold stOk
              exact Bool.and_eq_true_iff.mpr ⟨decide_eq_true b0.1, decide_eq_true b0.2⟩
            simp only [sCons, sStS, hite, Rs.bind_ok, isSta, List.getElem?_cons_zero, hs, Bool.and_self, if_true, stS]
          simp only [Rs.bind_ok, if_true]
          rw [e2, e3, e4]
          rfl
      · refine ⟨x3, _, ?_, hm, rfl, rfl⟩
        have hb' : (big == 0) = false := by simpa using hb
        simp [boT, toT, ev2, evStG, isSta, stV, evK, two, rsv, ret, cmpK, opCmp, opEq, hb', truR, tru]
  exact key 70 μ x3 hm (by have := hm.n; omega)
/-- a drawn number -/
theorem pick_ok (hm : MuOk μ) (h1 : 1 ≤ m) (h2 : m < 2 ^ 30) (hc : μ.cnt + 1 < 2 ^ 40) : ∃ r μ', (pickB (rho0 5 [.sta, .int m]) μ).fin = .ok (.int r) μ' ∧ 0 ≤ r ∧ r < m ∧ MuOk μ' ∧ μ'.cnt = μ.cnt + 1 ∧ μ'.ec = μ.ec := by
  have er : rho0 5 [.sta, .int m] = [.val .sta, .val (.int m), .un, .un, .un] := rfl
  rw [er]
  obtain ⟨cells, big, cnt, seed, ec⟩ := μ
  have s2 : stOk 2 (cnt + 1) = true := by
    unfold stOk
    exact Bool.and_eq_true_iff.mpr ⟨decide_eq_true (by have := hm.c0; simp only at this; omega), decide_eq_true hc⟩
  have m1 : MuOk ⟨cells, big, cnt + 1, seed, ec⟩ := stS_ok (k := 2) hm s2
  obtain ⟨y3, ⟨cells2, big2, cnt2, seed2, ec2⟩, q1, m2, q3, q4⟩ := pickW_ok (m := m) (x2 := .un) (x3 := .un) (x4 := .un) m1
  have q3 : cnt2 = cnt + 1 := q3
  have q4 : ec2 = ec := q4
  rw [q3, q4] at q1 m2

  have e1 : ∀ r : Ro → Mu → Rs Fl, sCons (sStS 0 2 (ev2 (fun c x y => opBin c .Add x y) (evStG 0 2) (evK (.int 1)))) r [.val .sta, .val (.int m), .un, .un, .un] ⟨cells, big, cnt, seed, ec⟩ = r [.val .sta, .val (.int m), .un, .un, .un] ⟨cells, big, cnt + 1, seed, ec⟩ := fun r => by
    simp only [sCons, sStS, ev2, evStG, isSta, stV, evK, two, rsv, ret, opBin, List.getElem?_cons_zero, if_true, Rs.bind_ok, s2, stS]
    rfl
  have e2 : ∀ r : Ro → Mu → Rs Fl, sCons pickW r [.val .sta, .val (.int m), .un, .un, .un] ⟨cells, big, cnt + 1, seed, ec⟩ = r [.val .sta, .val (.int m), .un, y3, .un] ⟨cells2, big2, cnt + 1, seed2, ec⟩ := fun r => by
    simp only [sCons, q1, Rs.bind_ok]
  unfold pickB
  rw [e1, e2]
  by_cases hb : 0 < big2
  · have md : decide ((0 : Int) < m) = true := decide_eq_true (by omega)
    have mf : decide ((0 : Int) < m ∧ m < 1073741824) = true := decide_eq_true ⟨by omega, by omega⟩
    have t1 : toT (ev2 (cmpK .Gt) (evStG 0 1) (evK (.int 0))) [.val .sta, .val (.int m), .un, y3, .un] ⟨cells2, big2, cnt + 1, seed2, ec⟩ = .ok true [.val .sta, .val (.int m), .un, y3, .un] ⟨cells2, big2, cnt + 1, seed2, ec⟩ := by
      have oi : opCmp .Gt (.int big2) (.int 0) = some true := by show some (decide (0 < big2)) = _; rw [decide_eq_true hb]
      simp only [toT, ev2, evStG, isSta, stV, evK, two, rsv, ret, cmpK, oi, truR, tru, List.getElem?_cons_zero, if_true, Rs.bind_ok, Option.map_some]
    have hs : stOk 1 (big2 / m) = true := by
      unfold stOk
      have l1 : big2 / m ≤ big2 := Int.ediv_le_self _ (by omega)
      exact Bool.and_eq_true_iff.mpr ⟨decide_eq_true (Int.ediv_nonneg (by omega) (by omega)), decide_eq_true (Int.lt_of_le_of_lt l1 m2.b1)⟩
    have m3 : MuOk ⟨cells2, big2 / m, cnt + 1, seed2, ec⟩ := stS_ok (k := 1) m2 hs
    refine ⟨big2 % m, _, ?_, Int.emod_nonneg _ (by omega), Int.emod_lt_of_pos _ (by omega), m3, rfl, rfl⟩
    simp only [sCons, sIf, t1, Rs.bind_ok, if_true, sSet, ev2, evC, aCons, evStG, isSta, stV, two, rsv, rsvs, ret, opBin, md, mf, evVar, kInt, datR, fz, List.getElem?_cons_zero, List.getElem?_cons_succ, show ∀ i, isDat (.int i) = true from fun _ => rfl, List.set_cons_succ, List.set_cons_zero, sStS, hs, stS, sRet, Bool.and_self]
    rfl
  · have md : decide ((0 : Int) < m) = true := decide_eq_true (by omega)
    have t1 : toT (ev2 (cmpK .Gt) (evStG 0 1) (evK (.int 0))) [.val .sta, .val (.int m), .un, y3, .un] ⟨cells2, big2, cnt + 1, seed2, ec⟩ = .ok false [.val .sta, .val (.int m), .un, y3, .un] ⟨cells2, big2, cnt + 1, seed2, ec⟩ := by
      have oi : opCmp .Gt (.int big2) (.int 0) = some false := by show some (decide (0 < big2)) = _; rw [decide_eq_false hb]
      simp only [toT, ev2, evStG, isSta, stV, evK, two, rsv, ret, cmpK, oi, truR, tru, List.getElem?_cons_zero, if_true, Rs.bind_ok, Option.map_some]
    have c0 := m2.c0
    have c1 := m2.c1
    have s0 := m2.s0
    have s1 := m2.s1
    simp only at c0 c1 s0 s1
    have k1 : decide ((0 : Int) ≤ 5 ∧ (5 : Int) ≤ 1000000 ∧ (seed2 + 7907 * (cnt + 1) + 104723).natAbs < 2 ^ 64) = true := decide_eq_true ⟨by omega, by omega, by omega⟩
    obtain ⟨mx, hmx⟩ : ∃ x : Int, x = (seed2 + 7907 * (cnt + 1) + 104723) ^ (5 : Int).toNat % 2147483629 := ⟨_, rfl⟩
    have x0 : 0 ≤ mx := by rw [hmx]; exact Int.emod_nonneg _ (by omega)
    have x1 : mx < 2147483629 := by rw [hmx]; exact Int.emod_lt_of_pos _ (by omega)
    have k2 : decide ((0 : Int) ≤ 3 ∧ (3 : Int) ≤ 1000000 ∧ (mx * 48271 + 30011 * (cnt + 1) + 31).natAbs < 2 ^ 64) = true := decide_eq_true ⟨by omega, by omega, by omega⟩
    have b1 : mulB 7907 (cnt + 1) = true := decide_eq_true (.inl ⟨by omega, by omega⟩)
    have b2 : mulB mx 48271 = true := decide_eq_true (.inr ⟨by omega, by omega⟩)
    have b3 : mulB 30011 (cnt + 1) = true := decide_eq_true (.inl ⟨by omega, by omega⟩)
    have p1 : decide ((0 : Int) < 2147483629) = true := rfl
    have p2 : decide ((0 : Int) < 1000000007) = true := rfl
    refine ⟨(mx * 48271 + 30011 * (cnt + 1) + 31) ^ (3 : Int).toNat % 1000000007 % m, _, ?_, Int.emod_nonneg _ (by omega), Int.emod_lt_of_pos _ (by omega), m2, rfl, rfl⟩
    simp only [sCons, sIf, t1, Rs.bind_ok, sNil, Bool.false_eq_true, if_false, if_true, sSet, ev2, evC, aCons, evStG, isSta, stV, two, rsv, rsvs, ret, opBin, md, b1, k1, p1, evK, evVar, kInt, datR, fz, List.getElem?_cons_zero, List.getElem?_cons_succ, show ∀ i, isDat (.int i) = true from fun _ => rfl, ← hmx, List.set_cons_succ, List.set_cons_zero, b2, b3, k2, p2, sRet]
    rfl
end
end GW

set_option maxHeartbeats 2000000
/-! a block by what it does, things labelled by the values that they are -/
namespace GW
open PySem PySem.Spec PyProof.Rows L2
section
variable {g : Gd} {X : Cx} {W : WX} {σ : St} {er : Er} {H : Hp} {ρ : Ro} {μ : Mu} {c : Nat} {av : Addr → Prop}
/-- less is known of the slots -/
def Fgt (ρx ρ' : Ro) : Prop := ρ'.length = ρx.length ∧ ∀ k : Nat, ρ'[k]? = ρx[k]? ∨ ρ'[k]? = some .un
theorem Fgt.refl (ρ : Ro) : Fgt ρ ρ := ⟨rfl, fun _ => .inl rfl⟩
theorem Fgt.ow {ρx ρ' : Ro} (h : Fgt ρx ρ') {i : Nat} (o : isOw ρ' i) : isOw ρx i := by
  obtain ⟨sv, h1, h2⟩ := isOw_iff.mp o
  rcases h.2 i with e | e
  · exact isOw_iff.mpr ⟨sv, e ▸ h1, h2⟩
  · rw [e] at h1; cases h1; cases h2
theorem Fgt.env {ρx ρ' : Ro} (h : Fgt ρx ρ') (E : RepEnv g er c H ρx σ) : RepEnv g er c H ρ' σ := by
  have ho : ∀ a, Ow ρ' σ a → Ow ρx σ a := fun a ⟨i, o, q⟩ => ⟨i, h.ow o, q⟩
  have at_ : ∀ {k : Nat} {sv : SV}, ρ'[k]? = some sv → sv ≠ .un → ρx[k]? = some sv := fun {k sv} e n => by
    rcases h.2 k with q | q
    · rw [← q]; exact e
    · rw [q] at e; cases e; exact absurd rfl n
  refine ⟨h.1.trans E.len, fun i d e => ?_, fun i e xs q => ?_, fun i e xs q => ?_, fun i j a h1 h2 => E.inj i j a (h.ow h1) (h.ow h2)⟩
  · obtain ⟨v, h1, h2⟩ := E.val i d (at_ e fun z => nomatch z)
    exact ⟨v, h1, RepV.less ho h2⟩
  · obtain ⟨a, vs, h1, h2, h3, h4, h5⟩ := E.ol i e xs (at_ q fun z => nomatch z)
    exact ⟨a, vs, h1, h2, h3, RepDs.less ho h4, h5⟩
  · obtain ⟨a, vs, h1, h2, h3, h3', h4, h5⟩ := E.od i e xs (at_ q fun z => nomatch z)
    exact ⟨a, vs, h1, h2, h3, h3', RepKs.less ho h4, h5⟩
theorem Fgt.nxs {ρx ρ' : Ro} {σ' : St} {er' : Er} {H' : Hp} {μ' : Mu} (h : Fgt ρx ρ') (m : NxS g σ er H ρ μ σ' er' H' ρx μ') : NxS g σ er H ρ μ σ' er' H' ρ' μ' :=
  ⟨m.x, h.env m.env, m.hp, fun a ⟨i, o, q⟩ => m.ow a ⟨i, h.ow o, q⟩⟩
/-- a block by what it does -/
theorem OkSs.by {sts : List Stmt} {f r : Ro → Mu → Rs Fl} (O : OkSs g X sts f) (hx : ∀ ρ μ x fs ρ' μ', r ρ μ ≠ .ex x fs ρ' μ') (hr : ∀ ρ μ o ρ' μ', r ρ μ = .ok o ρ' μ' → ∃ ρx, f ρ μ = .ok o ρx μ' ∧ Fgt ρx ρ') : OkSs g X sts r := by
  intro av W σ er H ρ μ Z tk E P h
  refine O av W σ er H ρ μ Z tk E P ?_
  cases e : r ρ μ with
  | no => rw [e] at h; exact h.elim
  | ex x fs ρ' μ' => exact absurd e (hx _ _ _ _ _ _)
  | ok o ρ' μ' =>
    obtain ⟨ρx, e2, hf⟩ := hr _ _ _ _ _ e
    rw [e] at h
    rw [e2]
    cases o with
    | nx => exact fun σ' H' er' m => h σ' H' er' (hf.nxs m)
    | rt d => exact fun v σ' H' er' m rd => h v σ' H' er' (hf.nxs m) (RepD.less (fun a ⟨i, o, q⟩ => ⟨i, hf.ow o, q⟩) rd)
/-! ### labels -/
def lab1 (i : Nat) (v : V) (ρ : Ro) : Ro := match ρ[i]? with
  | some (.val d) => ρ.set i (.val (.lab v d))
  | _ => ρ
def labOk (i : Nat) (ρ : Ro) : Bool := match ρ[i]? with
  | some (.val d) => isDat d
  | _ => false
theorem labOk_some {i : Nat} (h : labOk i ρ = true) : ∃ d, ρ[i]? = some (.val d) ∧ isDat d = true := by
  unfold labOk at h
  split at h
  · rename_i d e; exact ⟨d, e, h⟩
  · cases h
theorem lab1_ow {i : Nat} {v : V} {j : Nat} : isOw (lab1 i v ρ) j ↔ isOw ρ j := by
  unfold lab1
  split
  · rename_i d e
    rw [isOw_iff, isOw_iff]
    constructor
    · rintro ⟨sv, h1, h2⟩
      rcases get_set h1 with ⟨_, q⟩ | ⟨_, q⟩
      · rw [q] at h2; cases h2
      · exact ⟨sv, q, h2⟩
    · rintro ⟨sv, h1, h2⟩
      by_cases z : j = i
      · rw [z, e] at h1; cases h1; cases h2
      · exact ⟨sv, by rw [List.getElem?_set_ne (Ne.symm z)]; exact h1, h2⟩
  · exact Iff.rfl
theorem lab1_Ow {i : Nat} {v : V} {a : Addr} : Ow (lab1 i v ρ) σ a ↔ Ow ρ σ a := ⟨fun ⟨j, o, q⟩ => ⟨j, lab1_ow.mp o, q⟩, fun ⟨j, o, q⟩ => ⟨j, lab1_ow.mpr o, q⟩⟩
theorem env_lab {i : Nat} (E : RepEnv g er c H ρ σ) (h : labOk i ρ = true) : ∃ v, RepEnv g er c H (lab1 i v ρ) σ := by
  obtain ⟨d, e, hd⟩ := labOk_some h
  obtain ⟨v, h1, h2⟩ := E.val i d e
  refine ⟨v, ?_⟩
  have h3 := dat_rep h2 hd
  have lo : ∀ a, Ow (lab1 i v ρ) σ a → Ow ρ σ a := fun a => lab1_Ow.mp
  have eq : lab1 i v ρ = ρ.set i (.val (.lab v d)) := by unfold lab1; rw [e]
  have at_ : ∀ {k : Nat} {sv : SV}, (lab1 i v ρ)[k]? = some sv → (k = i ∧ sv = .val (.lab v d)) ∨ ρ[k]? = some sv := fun {k sv} q => by
    rw [eq] at q
    rcases get_set q with z | z
    · exact .inl z
    · exact .inr z.2
  refine ⟨by rw [eq, List.length_set]; exact E.len, fun k d' q => ?_, fun k e' xs q => ?_, fun k e' xs q => ?_, fun k j a o1 o2 => E.inj k j a (lab1_ow.mp o1) (lab1_ow.mp o2)⟩
  · rcases at_ q with ⟨rfl, z⟩ | z
    · cases z
      exact ⟨v, h1, .d (.lab (RepD.less lo h3))⟩
    · obtain ⟨u, q1, q2⟩ := E.val k d' z
      exact ⟨u, q1, RepV.less lo q2⟩
  · rcases at_ q with ⟨_, z⟩ | z
    · cases z
    · obtain ⟨a, vs, h1, h2, h3, h4, h5⟩ := E.ol k e' xs z
      exact ⟨a, vs, h1, h2, h3, RepDs.less lo h4, h5⟩
  · rcases at_ q with ⟨_, z⟩ | z
    · cases z
    · obtain ⟨a, vs, h1, h2, h3, h3', h4, h5⟩ := E.od k e' xs z
      exact ⟨a, vs, h1, h2, h3, h3', RepKs.less lo h4, h5⟩
theorem labOk_lab {i j : Nat} {v : V} (h : labOk j ρ = true) : labOk j (lab1 i v ρ) = true := by
  obtain ⟨d, e, hd⟩ := labOk_some h
  unfold lab1
  split
  · rename_i d' e'
    unfold labOk
    by_cases z : j = i
    · subst z
      rw [List.getElem?_set_self (List.getElem?_eq_some_iff.mp e).1]
      rfl
    · rw [List.getElem?_set_ne (Ne.symm z), e]; exact hd
  · exact h
/-- a block whatever the two things are that stand at i and j -/
theorem OkSs.lab {i j : Nat} {sts : List Stmt} {f r : Ro → Mu → Rs Fl} (O : OkSs g X sts f) (hx : ∀ ρ μ x fs ρ' μ', r ρ μ ≠ .ex x fs ρ' μ')
    (hr : ∀ ρ μ o ρ' μ', r ρ μ = .ok o ρ' μ' → labOk i ρ = true ∧ labOk j ρ = true ∧ ∀ v w, ∃ ρx, f (lab1 j w (lab1 i v ρ)) μ = .ok o ρx μ' ∧ Fgt ρx ρ') : OkSs g X sts r := by
  intro av W σ er H ρ μ Z tk E P h
  cases e : r ρ μ with
  | no => rw [e] at h; exact h.elim
  | ex x fs ρ' μ' => exact absurd e (hx _ _ _ _ _ _)
  | ok o ρ' μ' =>
    obtain ⟨l1, l2, k⟩ := hr _ _ _ _ _ e
    obtain ⟨v, E1⟩ := env_lab E l1
    obtain ⟨w, E2⟩ := env_lab E1 (labOk_lab l2)
    obtain ⟨ρx, e2, hf⟩ := k v w
    refine O av W σ er H _ μ Z tk E2 P ?_
    rw [e] at h
    rw [e2]
    have ho : ∀ a, Ow (lab1 j w (lab1 i v ρ)) σ a ↔ Ow ρ σ a := fun a => lab1_Ow.trans lab1_Ow
    have nn : ∀ {σ' : St} {er' : Er} {H' : Hp}, NxS (g.at av) σ er H (lab1 j w (lab1 i v ρ)) μ σ' er' H' ρx μ' → NxS (g.at av) σ er H ρ μ σ' er' H' ρ' μ' := fun {σ' er' H'} m =>
      let m' := hf.nxs m
      ⟨m'.x.mono fun a z => .inl ((ho a).mp z), m'.env, m'.hp, fun a z => (m'.ow a z).imp (ho a).mp id⟩
    cases o with
    | nx => exact fun σ' H' er' m => h σ' H' er' (nn m)
    | rt d => exact fun u σ' H' er' m rd => h u σ' H' er' (nn m) (RepD.less (fun a ⟨k, o, q⟩ => ⟨k, hf.ow o, q⟩) rd)
end
end GW

set_option maxHeartbeats 2000000
/-! a thing that is changed and changed back while two names stand for it -/
namespace GW
open PySem PySem.Spec PyProof.Rows L2
section
variable {g : Gd} {X : Cx} {W : WX} {σ : St} {er : Er} {H : Hp} {ρ : Ro} {μ : Mu} {c : Nat} {av : Addr → Prop} {bl : List Str} {n : Nat} {N : List Str} {sc : Scope}
theorem run_app {i : Nat} {x : Str} {a : Addr} {vs : List V} {s : Str} {j : Nat} {np kp ap cp pos : Pos} {Z : Ends} (C : Cxt g bl n N sc X) (h : nmB N sc i x = true) (hσ : σ[i]? = some (some (V.ref a))) (hH : H a = some (.lst vs)) (hl : vs.length < sizeLine) (q : Z.nx σ (upd H a (.lst (vs ++ [.str s]))))
    (hbase : attributeBase (.Name x np) "append" X.env (eval (.Name x np) X.env) = eval (.Name x np) X.env := by rfl)
    (hfew : ((backTo cp (starEach [.Constant (.str s) j kp] X.env)).all (fun x => !x.1) && (backToKw cp (keywordEach [] X.env)).all (fun x => x.1.isSome)
      && decide (([.Constant (.str s) j kp] : List Expr).length + ([] : List Keyword).length + (if ([] : List Keyword).isEmpty then 0 else 1) < 30)) = true := by rfl)
    (hline : (ap.endLine == cp.line) = true := by rfl) : RunS X (.Expr (.Call (.Attribute (.Name x np) "append" ap) [.Constant (.str s) j kp] [] cp) pos) Z σ H := by
  obtain ⟨h1, h2, h3, h4⟩ := nmB_ok h
  refine .of (ps_expr (pe_bm PySem.F.plainAttrs_list PySem.F.slot_list_append PySem.F.type_list_append mt_append (pe_var (C.at h1) (by rw [C.hsc]; exact h2) h3 h4) (pa_cons pe_str pa_nil) hbase hfew hline rfl rfl) (by rfl)) ?_
  exact ⟨_, hσ, .inl ⟨rfl, vs, .of hH⟩, ⟨a, vs, _, rfl, rfl, hH, hl, q⟩⟩
theorem run_pop0 {i : Nat} {x : Str} {a : Addr} {vs : List V} {y : V} {np ap cp pos : Pos} {Z : Ends} (C : Cxt g bl n N sc X) (h : nmB N sc i x = true) (hσ : σ[i]? = some (some (V.ref a))) (hH : H a = some (.lst (vs ++ [y]))) (q : Z.nx σ (upd H a (.lst vs)))
    (hbase : attributeBase (.Name x np) "pop" X.env (eval (.Name x np) X.env) = eval (.Name x np) X.env := by rfl)
    (hline : (ap.endLine == cp.line) = true := by rfl) : RunS X (.Expr (.Call (.Attribute (.Name x np) "pop" ap) [] [] cp) pos) Z σ H := by
  obtain ⟨h1, h2, h3, h4⟩ := nmB_ok h
  refine .of (ps_expr (pe_bm0 PySem.F.plainAttrs_list PySem.F.slot_list_pop PySem.F.type_list_pop mt_pop (pe_var (C.at h1) (by rw [C.hsc]; exact h2) h3 h4) hbase hline) (by rfl)) ?_
  refine ⟨_, hσ, .inl ⟨rfl, _, .of hH⟩, ⟨a, _, y, rfl, rfl, hH, by simp, ?_⟩⟩
  show Z.nx σ _
  rw [List.dropLast_concat]; exact q
theorem run_dput {i : Nat} {x : Str} {a : Addr} {kvs : List (Key × V)} {s : Str} {z : Int} {j j2 : Nat} {np kp vp p2 pos : Pos} {Z : Ends} (C : Cxt g bl n N sc X) (h : nmB N sc i x = true) (hσ : σ[i]? = some (some (V.ref a))) (hH : H a = some (.dK kvs)) (hl : kvs.length < sizeLine) (q : Z.nx σ (upd H a (.dK (putK kvs (.inr s) (.int z))))) :
    RunS X (.Assign [.Subscript (.Name x np) (.Constant (.str s) j kp) p2] (.Constant (.int z) j2 vp) pos) Z σ H := by
  obtain ⟨h1, h2, h3, h4⟩ := nmB_ok h
  have hu := C.hu
  refine .of (ps_dput (by omega) (pe_var (C.at h1) (by rw [C.hsc]; exact h2) h3 h4) pe_str pe_int (by rfl)) ?_
  exact ⟨_, hσ, a, _, rfl, DPut.k (k := .inr s) hH hl, q⟩
theorem run_dpop {i : Nat} {x : Str} {a : Addr} {kvs : List (Key × V)} {s : Str} {v : V} {j : Nat} {np kp ap cp pos : Pos} {Z : Ends} (C : Cxt g bl n N sc X) (h : nmB N sc i x = true) (hσ : σ[i]? = some (some (V.ref a))) (hH : H a = some (.dK kvs)) (hv : valV kvs (.inr s) = some v) (q : Z.nx σ (upd H a (.dK (dropK kvs (.inr s)))))
    (hbase : attributeBase (.Name x np) "pop" X.env (eval (.Name x np) X.env) = eval (.Name x np) X.env := by rfl)
    (hfew : ((backTo cp (starEach [.Constant (.str s) j kp] X.env)).all (fun x => !x.1) && (backToKw cp (keywordEach [] X.env)).all (fun x => x.1.isSome)
      && decide (([.Constant (.str s) j kp] : List Expr).length + ([] : List Keyword).length + (if ([] : List Keyword).isEmpty then 0 else 1) < 30)) = true := by rfl)
    (hline : (ap.endLine == cp.line) = true := by rfl) (ht : backTo cp (starEach [.Constant (.str s) j kp] X.env) = [(false, eval (.Constant (.str s) j kp) X.env)] := by rfl) : RunS X (.Expr (.Call (.Attribute (.Name x np) "pop" ap) [.Constant (.str s) j kp] [] cp) pos) Z σ H := by
  obtain ⟨h1, h2, h3, h4⟩ := nmB_ok h
  refine .of (ps_expr (pe_dpop1 (pe_var (C.at h1) (by rw [C.hsc]; exact h2) h3 h4) pe_str ⟨hbase, hfew, hline, ht⟩) (by rfl)) ?_
  exact ⟨_, hσ, a, rfl, .inl ⟨kvs, .inl hH⟩, kvs, .inr s, v, hH, rfl, hv, q⟩
/-- the object at a, changed -/
theorem hp_upd {a : Addr} {o o' : HO} (P : HpOk g er H μ) (h : H a = some o) (h1 : a ≠ g.sa) (h2 : a ≠ g.sb) (h3 : ∀ ps, o ≠ .tbl ps) (h4 : ∀ φ, o ≠ .ext φ) : HpOk g er (upd H a o') μ where
  sa := by rw [upd_ne (Ne.symm h1)]; exact P.sa
  sb := by rw [upd_ne (Ne.symm h2)]; exact P.sb
  ne := P.ne
  mu := P.mu
  er := fun b e => by
    by_cases hb : b = a
    · rw [hb, upd_same]; exact fun z => nomatch z
    · rw [upd_ne hb]; exact P.er b e
  tabs := fun p hp => by
    obtain ⟨ps, e1, e2, e3⟩ := P.tabs p hp
    refine ⟨ps, by rw [upd_ne (fun z => by rw [z, h] at e1; exact h3 _ (Option.some.inj e1))]; exact e1, e2, fun pos cv hc => ?_⟩
    obtain ⟨c, q1, q2⟩ := e3 pos cv hc
    exact ⟨c, q1, by rw [upd_ne (fun z => by rw [z, h] at q2; exact h4 _ (Option.some.inj q2))]; exact q2⟩
  av := fun b e => by
    by_cases hb : b = a
    · rw [hb, upd_same]; exact fun z => nomatch z
    · rw [upd_ne hb]; exact P.av b e
  nav := P.nav
/-- changed and changed back -/
theorem ext_back {a : Addr} {o o' : HO} {er1 er2 : Er} {c1 c2 : Nat} {H1 H2 : Hp} (x : Ext g NoOw er c H er1 c1 H1) (h : H1 a = some o) (ho : ∀ q u, o ≠ .frz q u) (y : Ext g NoOw er1 c1 (upd H1 a o') er2 c2 H2) : Ext g NoOw er c H er2 c2 (upd H2 a o) where
  same := fun b u e n1 n2 n3 t => by
    have e1 := x.same b u e n1 n2 n3 t
    by_cases hb : b = a
    · subst hb
      rw [upd_same, ← h]; exact e1
    · rw [upd_ne hb]
      exact y.same b u (by rw [upd_ne hb]; exact e1) n1 n2 n3 t
  dom := fun b e => by
    by_cases hb : b = a
    · rw [hb, upd_same]; exact fun z => nomatch z
    · rw [upd_ne hb]
      exact y.dom b (by rw [upd_ne hb]; exact x.dom b e)
  ere := fun e he => (y.ere e (Nat.le_trans he x.cc)).trans (x.ere e he)
  cc := Nat.le_trans x.cc y.cc
  new := fun b e hb h1 h2 => by
    by_cases hc : e ≤ c1
    · rw [y.ere e hc]; exact x.new b e hb h1 hc
    · refine y.new b e ?_ (by omega) h2
      by_cases hba : b = a
      · rw [hba, upd_same]; exact fun z => nomatch z
      · rw [upd_ne hba]; exact x.dom b hb
  nfz := fun b q u e => by
    by_cases hb : b = a
    · rw [hb, upd_same] at e
      exact absurd (Option.some.inj e) (ho q u)
    · rw [upd_ne hb] at e
      have := y.nfz b q u e
      rw [upd_ne hb] at this
      exact x.nfz b q u this
/-- two names, one thing -/
theorem env_two {w : V} {d : D} {x : Option V} {sv : SV} (r : RepD g er c H NoOw w d) (hs : ∀ d', sv = .val d' → ∃ u, x = some u ∧ RepD g er c H NoOw u d') (ho : isOwn sv = false) : RepEnv g er c H [.val d, .val d, sv] [some w, some w, x] := by
  have no : ∀ a, ¬ Ow [SV.val d, .val d, sv] [some w, some w, x] a := fun a ⟨i, o, _⟩ => by
    obtain ⟨s, h1, h2⟩ := isOw_iff.mp o
    match i with
    | 0 => cases h1; cases h2
    | 1 => cases h1; cases h2
    | 2 => cases h1; rw [ho] at h2; cases h2
    | i + 3 => simp at h1
  have less : ∀ {v : V} {d : D}, RepD g er c H NoOw v d → RepV g er c (Ow [SV.val d, .val d, sv] [some w, some w, x]) H v d := fun {v d} r => .d (RepD.less (fun a h => by
    obtain ⟨i, o, _⟩ := h
    obtain ⟨s, h1, h2⟩ := isOw_iff.mp o
    match i with
    | 0 => cases h1; cases h2
    | 1 => cases h1; cases h2
    | 2 => cases h1; rw [ho] at h2; cases h2
    | i + 3 => simp at h1) r)
  have less' : ∀ {v : V} {d' : D}, RepD g er c H NoOw v d' → RepV g er c (Ow [SV.val d, .val d, sv] [some w, some w, x]) H v d' := fun {v d'} r => .d (RepD.less (fun a h => (no a h).elim) r)
  have noI : ∀ i, ¬ isOw [SV.val d, .val d, sv] i := fun i o => by
    obtain ⟨s, h1, h2⟩ := isOw_iff.mp o
    match i with
    | 0 => cases h1; cases h2
    | 1 => cases h1; cases h2
    | 2 => cases h1; rw [ho] at h2; cases h2
    | i + 3 => simp at h1
  refine ⟨rfl, fun i d' e => ?_, fun i e xs q => (noI i (.inl ⟨e, xs, q⟩)).elim, fun i e xs q => (noI i (.inr ⟨e, xs, q⟩)).elim, fun i j a h1 => (noI i h1).elim⟩
  match i with
  | 0 => cases e; exact ⟨w, rfl, less' r⟩
  | 1 => cases e; exact ⟨w, rfl, less' r⟩
  | 2 =>
    cases e
    obtain ⟨u, h1, h2⟩ := hs d' rfl
    exact ⟨u, by rw [h1]; rfl, less' h2⟩
  | i + 3 => simp at e
end
end GW

set_option maxHeartbeats 2000000
namespace GW
open PySem PySem.Spec PyProof.Rows L2
section
variable {g : Gd} {X : Cx} {W : WX} {σ : St} {er : Er} {H : Hp} {ρ : Ro} {μ : Mu} {c : Nat} {av : Addr → Prop} {bl : List Str} {n : Nat} {N : List Str} {sc : Scope}
theorem noOw3 {d1 d2 : D} {sv : SV} (ho : isOwn sv = false) {σ : St} {a : Addr} : ¬ Ow [SV.val d1, .val d2, sv] σ a := fun ⟨i, o, _⟩ => by
  obtain ⟨s, h1, h2⟩ := isOw_iff.mp o
  match i with
  | 0 => cases h1; cases h2
  | 1 => cases h1; cases h2
  | 2 => cases h1; rw [ho] at h2; cases h2
  | i + 3 => simp at h1
/-- what the changes of a thing and back ask: the list [i, [1]] -/
theorem very_lst {xd s : Str} {xs : Str} {c1 ex2 : Expr} {a4 : Stmt} {rest : List Stmt} {f1 : Ro → Mu → Rs Bool} {f2 : Ro → Mu → Rs D} {f4 : Ro → Mu → Rs Fl} {np ap kp cp p1 np3 ap3 cp3 p3 p2 px pos : Pos} {j : Nat} {Z : Ends} {w : V} {e e2 : Nat} {i : Int} {ρ4 : Ro}
    (C : Cxt g bl n N sc X) (hd : nmB N sc 1 xd = true) (O1 : OkT g X c1 f1) (S : CxS X) (hw : nwB N sc 2 xs = true) (O2 : OkE g X ex2 f2) (O4 : OkS g X a4 f4) (tk : Takes X W) (P : HpOk (g.at av) er H μ) (r : RepD (g.at av) er μ.ec H NoOw w (.lst e [.int i, .lst e2 [.int 1]]))
    (k1 : f1 [.val (.lst e [.int i, .lst e2 [.int 1]]), .val (.lst e [.int i, .lst e2 [.int 1]]), .un] μ = .ok true [.val (.lst e [.int i, .lst e2 [.int 1]]), .val (.lst e [.int i, .lst e2 [.int 1]]), .un] μ)
    (k2 : f2 [.val (.lst e [.int i, .lst e2 [.int 1], .str s]), .val (.lst e [.int i, .lst e2 [.int 1], .str s]), .un] μ = .ok (.bl true) [.val (.lst e [.int i, .lst e2 [.int 1], .str s]), .val (.lst e [.int i, .lst e2 [.int 1], .str s]), .un] μ)
    (k4 : f4 [.val (.lst e [.int i, .lst e2 [.int 1]]), .val (.lst e [.int i, .lst e2 [.int 1]]), .val (.bl true)] μ = .ok (.rt (.bl true)) ρ4 μ)
    (q : ∀ H' er', Ext (g.at av) NoOw er μ.ec H er' μ.ec H' → HpOk (g.at av) er' H' μ → Z.rt (.bl true) H')
    (hbase : attributeBase (.Name xd np) "append" X.env (eval (.Name xd np) X.env) = eval (.Name xd np) X.env := by rfl)
    (hfew : ((backTo cp (starEach [.Constant (.str s) j kp] X.env)).all (fun x => !x.1) && (backToKw cp (keywordEach [] X.env)).all (fun x => x.1.isSome)
      && decide (([.Constant (.str s) j kp] : List Expr).length + ([] : List Keyword).length + (if ([] : List Keyword).isEmpty then 0 else 1) < 30)) = true := by rfl)
    (hline : (ap.endLine == cp.line) = true := by rfl) (hbase3 : attributeBase (.Name xd np3) "pop" X.env (eval (.Name xd np3) X.env) = eval (.Name xd np3) X.env := by rfl) (hline3 : (ap3.endLine == cp3.line) = true := by rfl) (hsw : swapsWith ex2 (some (.Name xs px)) p2.line X.env = pure false := by rfl) :
    RunSs X (.If c1 (.Expr (.Call (.Attribute (.Name xd np) "append" ap) [.Constant (.str s) j kp] [] cp) p1 :: .Assign [.Name xs px] ex2 p2 :: .Expr (.Call (.Attribute (.Name xd np3) "pop" ap3) [] [] cp3) p3 :: [a4]) [] pos :: rest) Z [some w, some w, none] H := by
  have r0 := r
  cases r with
  | @lst a _ vs _ h he hf rr =>
  cases rr with
  | cons ra rr =>
  cases rr with
  | cons rb rr =>
  cases rr
  cases ra
  cases rb with
  | @lst b _ us _ hb heb hfb rb =>
  cases rb with
  | cons rc rb =>
  cases rb
  cases rc
  have hba : b ≠ a := fun z => by rw [z, h] at hb; cases hb
  have E0 : RepEnv (g.at av) er μ.ec H [.val (.lst e [.int i, .lst e2 [.int 1]]), .val (.lst e [.int i, .lst e2 [.int 1]]), .un] [some (.ref a), some (.ref a), none] := env_two r0 (fun d' z => by cases z) rfl
  refine .of (pss_cons (ps_if ptR pssR pssR) pssR) ?_
  refine O1 av W _ er H _ μ _ tk E0 P ?_
  rw [k1]
  intro H1 er1 n1
  have no0 : ∀ x, Ow [SV.val (.lst e [.int i, .lst e2 [.int 1]]), .val (.lst e [.int i, .lst e2 [.int 1]]), .un] [some (.ref a), some (.ref a), none] x → NoOw x := fun x z => (noOw3 rfl z).elim
  have x1 : Ext (g.at av) NoOw er μ.ec H er1 μ.ec H1 := n1.x.mono fun x z => .inl (no0 x z)
  have h1 : H1 a = some (.lst [.int i, .ref b]) := x1.same a _ h id hf.2.2.1 hf.2.2.2 rfl
  have hb1 : H1 b = some (.lst [.int 1]) := x1.same b _ hb id hfb.2.2.1 hfb.2.2.2 rfl
  have he1 := he.ext x1 (rd_ne (.inl h))
  have heb1 := heb.ext x1 (rd_ne (.inl hb))
  refine iteT (.of (pss_cons psR (pss_cons psR (pss_cons psR (pss_one psR)))) ?_)
  refine run_app C hd rfl h1 (by rw [sizeLine_eq]; simp) ?_ hbase hfew hline
  have P1 : HpOk (g.at av) er1 (upd H1 a (.lst ([.int i, .ref b] ++ [.str s]))) μ := hp_upd n1.hp h1 hf.2.2.1 hf.2.2.2 (fun _ z => nomatch z) (fun _ z => nomatch z)
  have r1 : RepD (g.at av) er1 μ.ec (upd H1 a (.lst ([.int i, .ref b] ++ [.str s]))) NoOw (.ref a) (.lst e [.int i, .lst e2 [.int 1], .str s]) :=
    .lst (by rw [upd_same]; rfl) he1 hf (.cons (.int i) (.cons (.lst (by rw [upd_ne hba]; exact hb1) heb1 hfb (.cons (.int 1) .nil)) (.cons (.str s) .nil)))
  have E1 := env_two (x := none) (sv := .un) r1 (fun d' z => by cases z) rfl
  refine .of (ps_set C.ndup (C.at (nwB_ok hw).1) (C.loc (nwB_ok hw).2) peR hsw (.inl (S.fn _))) ?_
  refine O2 av W _ er1 _ _ μ _ tk E1 P1 ?_
  rw [k2]
  intro v2 H2 er2 n2 rv2
  have x2 : Ext (g.at av) NoOw er1 μ.ec (upd H1 a (.lst ([.int i, .ref b] ++ [.str s]))) er2 μ.ec H2 := n2.x.mono fun x z => (noOw3 rfl z).elim
  have h2 : H2 a = some (.lst ([.int i, .ref b] ++ [.str s])) := x2.same a _ upd_same id hf.2.2.1 hf.2.2.2 rfl
  have hb2 : H2 b = some (.lst [.int 1]) := x2.same b _ (by rw [upd_ne hba]; exact hb1) id hfb.2.2.1 hfb.2.2.2 rfl
  have he2 := he1.ext x2 (rd_ne (.inl (upd_same)))
  have heb2 := heb1.ext x2 (rd_ne (.inl (show upd H1 a (.lst ([.int i, .ref b] ++ [.str s])) b = some (.lst [.int 1]) by rw [upd_ne hba]; exact hb1)))
  obtain rfl : v2 = .bl true := by
    cases rv2 with
    | d q => cases q; rfl
  refine run_pop0 C hd rfl h2 ?_ hbase3 hline3
  have x3 : Ext (g.at av) NoOw er μ.ec H er2 μ.ec (upd H2 a (.lst [.int i, .ref b])) := ext_back x1 h1 (fun _ _ z => nomatch z) x2
  have P3 : HpOk (g.at av) er2 (upd H2 a (.lst [.int i, .ref b])) μ := hp_upd n2.hp h2 hf.2.2.1 hf.2.2.2 (fun _ z => nomatch z) (fun _ z => nomatch z)
  have r3 : RepD (g.at av) er2 μ.ec (upd H2 a (.lst [.int i, .ref b])) NoOw (.ref a) (.lst e [.int i, .lst e2 [.int 1]]) :=
    .lst upd_same he2 hf (.cons (.int i) (.cons (.lst (by rw [upd_ne hba]; exact hb2) heb2 hfb (.cons (.int 1) .nil)) .nil))
  have E3 := env_two (x := some (.bl true)) (sv := .val (.bl true)) r3 (fun d' z => by cases z; exact ⟨_, rfl, .bl true⟩) rfl
  refine O4 av W _ er2 _ _ μ _ tk E3 P3 ?_
  rw [k4]
  intro v4 σ4 H4 er4 n4 rv4
  cases rv4
  have x4 : Ext (g.at av) NoOw er2 μ.ec (upd H2 a (.lst [.int i, .ref b])) er4 μ.ec H4 := n4.x.mono fun x z => (noOw3 rfl z).elim
  exact q H4 er4 (x3.trans x4 fun x z => z.elim) n4.hp
/-- the same of the dict {ka: i} -/
theorem very_dic {xd s xs ka : Str} {c0 c1 ex2 : Expr} {a4 : Stmt} {A0 rest : List Stmt} {f0 f1 : Ro → Mu → Rs Bool} {f2 : Ro → Mu → Rs D} {f4 : Ro → Mu → Rs Fl} {np kp vp pp p1 np3 ap3 kp3 cp3 p3 p2 px pos pos0 : Pos} {j j2 j3 : Nat} {Z : Ends} {a : Addr} {e : Nat} {i z : Int} {ρ4 : Ro}
    (C : Cxt g bl n N sc X) (hd : nmB N sc 1 xd = true) (hk : ka ≠ s) (O0 : OkT g X c0 f0) (O1 : OkT g X c1 f1) (S : CxS X) (hw : nwB N sc 2 xs = true) (O2 : OkE g X ex2 f2) (O4 : OkS g X a4 f4) (tk : Takes X W) (P : HpOk (g.at av) er H μ) (r : RepD (g.at av) er μ.ec H NoOw (.ref a) (.dic e [(.inr ka, .int i)])) (hH : H a = some (.dK [(.inr ka, .int i)]))
    (k0 : f0 [.val (.dic e [(.inr ka, .int i)]), .val (.dic e [(.inr ka, .int i)]), .un] μ = .ok false [.val (.dic e [(.inr ka, .int i)]), .val (.dic e [(.inr ka, .int i)]), .un] μ)
    (k1 : f1 [.val (.dic e [(.inr ka, .int i)]), .val (.dic e [(.inr ka, .int i)]), .un] μ = .ok true [.val (.dic e [(.inr ka, .int i)]), .val (.dic e [(.inr ka, .int i)]), .un] μ)
    (k2 : f2 [.val (.dic e [(.inr ka, .int i), (.inr s, .int z)]), .val (.dic e [(.inr ka, .int i), (.inr s, .int z)]), .un] μ = .ok (.bl true) [.val (.dic e [(.inr ka, .int i), (.inr s, .int z)]), .val (.dic e [(.inr ka, .int i), (.inr s, .int z)]), .un] μ)
    (k4 : f4 [.val (.dic e [(.inr ka, .int i)]), .val (.dic e [(.inr ka, .int i)]), .val (.bl true)] μ = .ok (.rt (.bl true)) ρ4 μ)
    (q : ∀ H' er', Ext (g.at av) NoOw er μ.ec H er' μ.ec H' → HpOk (g.at av) er' H' μ → Z.rt (.bl true) H')
    (hbase3 : attributeBase (.Name xd np3) "pop" X.env (eval (.Name xd np3) X.env) = eval (.Name xd np3) X.env := by rfl)
    (hfew : ((backTo cp3 (starEach [.Constant (.str s) j3 kp3] X.env)).all (fun x => !x.1) && (backToKw cp3 (keywordEach [] X.env)).all (fun x => x.1.isSome)
      && decide (([.Constant (.str s) j3 kp3] : List Expr).length + ([] : List Keyword).length + (if ([] : List Keyword).isEmpty then 0 else 1) < 30)) = true := by rfl)
    (hline3 : (ap3.endLine == cp3.line) = true := by rfl) (ht : backTo cp3 (starEach [.Constant (.str s) j3 kp3] X.env) = [(false, eval (.Constant (.str s) j3 kp3) X.env)] := by rfl) (hsw : swapsWith ex2 (some (.Name xs px)) p2.line X.env = pure false := by rfl) :
    RunSs X (.If c0 A0 [] pos0 :: .If c1 (.Assign [.Subscript (.Name xd np) (.Constant (.str s) j kp) pp] (.Constant (.int z) j2 vp) p1 :: .Assign [.Name xs px] ex2 p2 :: .Expr (.Call (.Attribute (.Name xd np3) "pop" ap3) [.Constant (.str s) j3 kp3] [] cp3) p3 :: [a4]) [] pos :: rest) Z [some (.ref a), some (.ref a), none] H := by
  have r0 := r
  cases r with
  | @dic _ _ vs _ h he hf nd rr =>
  have E0 : RepEnv (g.at av) er μ.ec H [.val (.dic e [(.inr ka, .int i)]), .val (.dic e [(.inr ka, .int i)]), .un] [some (.ref a), some (.ref a), none] := env_two r0 (fun d' z => by cases z) rfl
  refine .of (pss_cons (ps_if ptR pssR pss_nil) (pss_cons (ps_if ptR pssR pssR) pssR)) ?_
  refine O0 av W _ er H _ μ _ tk E0 P ?_
  rw [k0]
  intro H0 er0 n0
  have x0 : Ext (g.at av) NoOw er μ.ec H er0 μ.ec H0 := n0.x.mono fun x z => (noOw3 rfl z).elim
  refine iteF ?_
  refine O1 av W _ er0 H0 _ μ _ tk n0.env n0.hp ?_
  rw [k1]
  intro H1 er1 n1
  have x1 : Ext (g.at av) NoOw er μ.ec H er1 μ.ec H1 := x0.trans (n1.x.mono fun x z => (noOw3 rfl z).elim) fun x z => (z : False).elim
  have h1 : H1 a = some (.dK [(.inr ka, .int i)]) := x1.same a _ hH id hf.2.2.1 hf.2.2.2 rfl
  have he1 := he.ext x1 (rd_ne (.inl hH))
  refine iteT (.of (pss_cons psR (pss_cons psR (pss_cons psR (pss_one psR)))) ?_)
  have hk' : (Sum.inr ka : Key) ≠ Sum.inr s := fun z => hk (Sum.inr.inj z)
  have ep : putK [((.inr ka : Key), (V.int i))] (.inr s) (.int z) = [(.inr ka, .int i), (.inr s, .int z)] := by
    unfold putK
    rw [if_neg (by simp [hk'])]; rfl
  have ed : dropK [((.inr ka : Key), (V.int i)), (.inr s, .int z)] (.inr s) = [(.inr ka, .int i)] := by
    unfold dropK
    simp [hk']
  have ev : valV [((.inr ka : Key), (V.int i)), (.inr s, .int z)] (.inr s) = some (.int z) := by
    rw [valV_neg hk']; exact valV_pos rfl
  refine run_dput C hd rfl h1 (by rw [sizeLine_eq]; simp) ?_
  rw [ep]
  have P1 : HpOk (g.at av) er1 (upd H1 a (.dK [(.inr ka, .int i), (.inr s, .int z)])) μ := hp_upd n1.hp h1 hf.2.2.1 hf.2.2.2 (fun _ z => nomatch z) (fun _ z => nomatch z)
  have r1 : RepD (g.at av) er1 μ.ec (upd H1 a (.dK [(.inr ka, .int i), (.inr s, .int z)])) NoOw (.ref a) (.dic e [(.inr ka, .int i), (.inr s, .int z)]) :=
    .dic (.inl upd_same) he1 hf (by simpa using hk) (.cons (.int i) (.cons (.int z) .nil))
  have E1 := env_two (x := none) (sv := .un) r1 (fun d' z => by cases z) rfl
  refine .of (ps_set C.ndup (C.at (nwB_ok hw).1) (C.loc (nwB_ok hw).2) peR hsw (.inl (S.fn _))) ?_
  refine O2 av W _ er1 _ _ μ _ tk E1 P1 ?_
  rw [k2]
  intro v2 H2 er2 n2 rv2
  have x2 : Ext (g.at av) NoOw er1 μ.ec (upd H1 a (.dK [(.inr ka, .int i), (.inr s, .int z)])) er2 μ.ec H2 := n2.x.mono fun x z => (noOw3 rfl z).elim
  have h2 : H2 a = some (.dK [(.inr ka, .int i), (.inr s, .int z)]) := x2.same a _ upd_same id hf.2.2.1 hf.2.2.2 rfl
  have he2 := he1.ext x2 (rd_ne (.inl (upd_same)))
  obtain rfl : v2 = .bl true := by
    cases rv2 with
    | d q => cases q; rfl
  refine run_dpop C hd rfl h2 ev ?_ hbase3 hfew hline3 ht
  rw [ed]
  have x3 : Ext (g.at av) NoOw er μ.ec H er2 μ.ec (upd H2 a (.dK [(.inr ka, .int i)])) := ext_back x1 h1 (fun _ _ z => nomatch z) x2
  have P3 : HpOk (g.at av) er2 (upd H2 a (.dK [(.inr ka, .int i)])) μ := hp_upd n2.hp h2 hf.2.2.1 hf.2.2.2 (fun _ z => nomatch z) (fun _ z => nomatch z)
  have r3 : RepD (g.at av) er2 μ.ec (upd H2 a (.dK [(.inr ka, .int i)])) NoOw (.ref a) (.dic e [(.inr ka, .int i)]) :=
    .dic (.inl upd_same) he2 hf (by simp) (.cons (.int i) .nil)
  have E3 := env_two (x := some (.bl true)) (sv := .val (.bl true)) r3 (fun d' z => by cases z; exact ⟨_, rfl, .bl true⟩) rfl
  refine O4 av W _ er2 _ _ μ _ tk E3 P3 ?_
  rw [k4]
  intro v4 σ4 H4 er4 n4 rv4
  cases rv4
  have x4 : Ext (g.at av) NoOw er2 μ.ec (upd H2 a (.dK [(.inr ka, .int i)])) er4 μ.ec H4 := n4.x.mono fun x z => (noOw3 rfl z).elim
  exact q H4 er4 (x3.trans x4 fun x z => z.elim) n4.hp
end
end GW

set_option maxHeartbeats 2000000
/-! two names for one thing, asked of a def that changes it and changes it back -/
namespace GW
open PySem PySem.Spec PyProof.Rows L2
/-- the drawn things of the laws of errors -/
def objD (ka : Str) : D → Bool
  | .non | .bl _ | .int _ => true
  | .str s => PyData.canLay0 (.str s)
  | .tup [.int _, .int _] => true
  | .lst _ [.int _, .lst _ [.int i]] => i == 1
  | .dic _ [(.inr k, .int _)] => k == ka
  | _ => false
section
variable {g : Gd} {X : Cx} {W : WX} {σ : St} {er : Er} {H : Hp} {ρ : Ro} {μ : Mu} {c : Nat} {av : Addr → Prop} {bl : List Str} {n : Nat} {N : List Str} {sc : Scope}
def spV (g : Gd) (ka : Str) : Sp := fun vs H Q _ => ∃ (av : Addr → Prop) (er : Er) (μ : Mu) (w : V) (d : D), vs = [w, w] ∧ HpOk (g.at av) er H μ ∧ RepD (g.at av) er μ.ec H NoOw w d ∧ objD ka d = true ∧ (∀ e kvs, d = .dic e kvs → ∀ a o u, w = .ref a → H a ≠ some (.frz o u)) ∧ ∀ H' er', Ext (g.at av) NoOw er μ.ec H er' μ.ec H' → HpOk (g.at av) er' H' μ → Q (.bl true) H'
structure FunV (g : Gd) (X : Cx) (k : Nat) (x ka : Str) : Prop where
  ex : ∃ (f : Addr) (fd : FuncData) (ps : List Str), FnOk X.prog X.w X.K X.mg X.base (L2.CX X.prog X.w) k f fd ps (spV g ka) ∧ X.mg x = some (.ref f) ∧ PySem.W.keepIn X.K (.ref f) = true ∧ L2.Binds X.K fd ps []
theorem not_very {x ka y1 y2 : Str} {i j : Nat} {v : V} {d : D} {p p1 p2 cp up : Pos} {Q : Bool → Hp → Prop} (C : Cxt g bl n N sc X) (FV : FunV g X n x ka) (hg : gnB sc x = true) (h1 : nmB N sc i y1 = true) (h2 : nmB N sc j y2 = true) (tk : Takes X W) (E : RepEnv (g.at av) er μ.ec H ρ σ) (P : HpOk (g.at av) er H μ)
    (e1 : ρ[i]? = some (.val (ofV v))) (e2 : ρ[j]? = some (.val (.lab v d))) (ho : objD ka d = true) (hu : ∀ e kvs, d = .dic e kvs → ∀ a o u, v = .ref a → H a ≠ some (.frz o u)) (q : ∀ H' er', Nx (g.at av) σ er H ρ μ er' H' ρ μ → Q false H')
    (he : starEach [.Name y1 p1, .Name y2 p2] X.env = (false, eval (.Name y1 p1) X.env) :: starEach [.Name y2 p2] X.env := by rfl) (he2 : starEach [.Name y2 p2] X.env = (false, eval (.Name y2 p2) X.env) :: starEach [] X.env := by rfl) (hpl : (backTo cp (starEach [.Name y2 p2] X.env)).any (·.1) = false := by rfl) :
    RunT X (.UnaryOp .Not (.Call (.Name x p) [.Name y1 p1, .Name y2 p2] [] cp) up) σ H Q := by
  obtain ⟨f, fd, ps, Fk, hm, kp, hb⟩ := FV.ex
  obtain ⟨a1, a2, a3, a4⟩ := nmB_ok h1
  obtain ⟨b1, b2, b3, b4⟩ := nmB_ok h2
  refine .of (pt_not (pt_val (pe_callS Fk C.room (C.gl (gnB_ok hg).1) hm kp hb (E := WE W) (passAt tk) (pa_cons (pe_var (i := i) (C.at a1) (by rw [C.hsc]; exact a2) a3 a4) (pa_cons (pe_var (i := j) (C.at b1) (by rw [C.hsc]; exact b2) b3 b4) pa_nil he2) he) (gnB_ok hg).2 he hpl) (fun _ => rfl))) ?_
  obtain ⟨v1, s1, r1⟩ := E.val i _ e1
  obtain ⟨v2, s2, r2⟩ := E.val j _ e2
  have hv1 : v1 = v := by
    have z := dat_rep r1 (by cases v <;> rfl)
    have : toV1 (ofV v) = some v := by cases v <;> rfl
    exact toV1_rep z this
  subst hv1
  have r2' := dat_rep r2 rfl
  cases r2' with
  | lab r3 =>
    refine ⟨v1, s1, v1, s2, avC av ρ σ [], er, μ, v1, d, rfl, avC_hp E P, RepD.cv (g := g.at av) (av' := avC av ρ σ []) (free_C (ds := [])) r3, ho, hu, fun H' er' x1 P1 => ⟨true, rfl, ?_⟩⟩
    exact q H' er' (nx_call E P x1 P1)
/-- if not very(..) or not very(..): leave -/
theorem OkAS.very {x ka y1 y2 y3 y4 : Str} {i1 i2 i3 i4 : Nat} {A : List Stmt} {p p1 p2 cp up p' p1' p2' cp' up' bp pos : Pos} (C : Cxt g bl n N sc X) (FV : FunV g X n x ka) (hg : gnB sc x = true) (h1 : nmB N sc i1 y1 = true) (h2 : nmB N sc i2 y2 = true) (h3 : nmB N sc i3 y3 = true) (h4 : nmB N sc i4 y4 = true)
    (he : starEach [.Name y1 p1, .Name y2 p2] X.env = (false, eval (.Name y1 p1) X.env) :: starEach [.Name y2 p2] X.env := by rfl) (he2 : starEach [.Name y2 p2] X.env = (false, eval (.Name y2 p2) X.env) :: starEach [] X.env := by rfl) (hpl : (backTo cp (starEach [.Name y2 p2] X.env)).any (·.1) = false := by rfl)
    (he' : starEach [.Name y3 p1', .Name y4 p2'] X.env = (false, eval (.Name y3 p1') X.env) :: starEach [.Name y4 p2'] X.env := by rfl) (he2' : starEach [.Name y4 p2'] X.env = (false, eval (.Name y4 p2') X.env) :: starEach [] X.env := by rfl) (hpl' : (backTo cp' (starEach [.Name y4 p2'] X.env)).any (·.1) = false := by rfl) (r : Nat → Ro → Mu → Rs Fl)
    (hx : ∀ k ρ μ x fs ρ' μ', r k ρ μ ≠ .ex x fs ρ' μ')
    (hr : ∀ k ρ μ o ρ' μ', r k ρ μ = .ok o ρ' μ' → o = .nx ∧ μ' = μ ∧ Fgt ρ ρ' ∧ ∃ v w d d', ρ[i1]? = some (.val (ofV v)) ∧ ρ[i2]? = some (.val (.lab v d)) ∧ ρ[i3]? = some (.val (ofV w)) ∧ ρ[i4]? = some (.val (.lab w d')) ∧ objD ka d = true ∧ objD ka d' = true ∧ newD k d = true ∧ newD k d' = true) :
    OkAS g X [.If (.BoolOp .Or [.UnaryOp .Not (.Call (.Name x p) [.Name y1 p1, .Name y2 p2] [] cp) up, .UnaryOp .Not (.Call (.Name x p') [.Name y3 p1', .Name y4 p2'] [] cp') up'] bp) A [] pos] r := by
  intro av W σ0 er0 H0 ρ0 μ0 σ er H ρ μ Z tk m h
  cases e : r μ0.ec ρ μ with
  | no => rw [e] at h; exact h.elim
  | ex x fs ρ' μ' => exact absurd e (hx _ _ _ _ _ _ _)
  | ok o ρ' μ' =>
    obtain ⟨rfl, rfl, hf, v, w, d, d', e1, e2, e3, e4, o1, o2, n1, n2⟩ := hr _ _ _ _ _ _ e
    rw [e] at h
    have h : ∀ σ' H' er', NxS (g.at av) σ0 er0 H0 ρ0 μ0 σ' er' H' ρ' μ' → Z.nx σ' H' := h
    have unf : ∀ {er1 : Er} {H1 : Hp} {j : Nat} {u : V} {t : D}, NxS (g.at av) σ0 er0 H0 ρ0 μ0 σ er1 H1 ρ μ' → ρ[j]? = some (.val (.lab u t)) → newD μ0.ec t = true → ∀ e kvs, t = .dic e kvs → ∀ a o z, u = .ref a → H1 a ≠ some (.frz o z) := fun {er1 H1 j u t} m1 ej nj e kvs et a o z ea => by
      subst et
      obtain ⟨u', s, r⟩ := m1.env.val j _ ej
      have r := dat_rep r rfl
      cases r with
      | lab r =>
        subst ea
        cases r with
        | dic hq he hfr nd rr => exact nf_of m1 a _ (new_dic' nj).1.1 he.1 he.2.1 o z
    refine .of (pss_one (ps_if ((pw_or (ptR) (pw_or1 (ptR))).pt) pssR pss_nil)) ?_
    refine not_very (av := av) (W := W) C FV hg h1 h2 tk m.env m.hp e1 e2 o1 (unf m e2 n1) (fun H1 er1 nx1 => ?_) he he2 hpl
    have m1 := m.trans nx1.s
    refine iteF ?_
    refine not_very (av := av) (W := W) C FV hg h3 h4 tk m1.env m1.hp e3 e4 o2 (unf m1 e4 n2) (fun H2 er2 nx2 => ?_) he' he2' hpl'
    exact iteF (h σ H2 er2 (hf.nxs (m1.trans nx2.s)))
/-- labels in an anchored block -/
theorem OkAS.lab {i j : Nat} {sts : List Stmt} {f r : Nat → Ro → Mu → Rs Fl} (O : OkAS g X sts f) (hx : ∀ k ρ μ x fs ρ' μ', r k ρ μ ≠ .ex x fs ρ' μ')
    (hr : ∀ k ρ μ o ρ' μ', r k ρ μ = .ok o ρ' μ' → labOk i ρ = true ∧ labOk j ρ = true ∧ ∀ v w, ∃ ρx, f k (lab1 j w (lab1 i v ρ)) μ = .ok o ρx μ' ∧ Fgt ρx ρ') : OkAS g X sts r := by
  intro av W σ0 er0 H0 ρ0 μ0 σ er H ρ μ Z tk m h
  cases e : r μ0.ec ρ μ with
  | no => rw [e] at h; exact h.elim
  | ex x fs ρ' μ' => exact absurd e (hx _ _ _ _ _ _ _)
  | ok o ρ' μ' =>
    obtain ⟨l1, l2, k⟩ := hr _ _ _ _ _ _ e
    obtain ⟨v, E1⟩ := env_lab m.env l1
    obtain ⟨w, E2⟩ := env_lab E1 (labOk_lab l2)
    obtain ⟨ρx, e2, hf⟩ := k v w
    have ho : ∀ a, Ow (lab1 j w (lab1 i v ρ)) σ a ↔ Ow ρ σ a := fun a => lab1_Ow.trans lab1_Ow
    refine O av W σ0 er0 H0 ρ0 μ0 σ er H _ μ Z tk ⟨m.x, E2, m.hp, fun a z => m.ow a ((ho a).mp z)⟩ ?_
    rw [e] at h
    rw [e2]
    cases o with
    | nx => exact fun σ' H' er' m' => h σ' H' er' (hf.nxs m')
    | rt d => exact fun u σ' H' er' m' rd => h u σ' H' er' (hf.nxs m') (RepD.less (fun a ⟨k, o, q⟩ => ⟨k, hf.ow o, q⟩) rd)
end
end GW

set_option maxHeartbeats 2000000
/-! plain: the laws' own sameness of trees -/
namespace GW
open PySem PySem.Spec PyProof.Rows L2
def sameB (S : List D → Mu → Rf) : Ro → Mu → Rs Fl := sCons (sIf (toT (evIsis ["list", "tuple"] (evVar 1))) (sCons (sIf (boT .Or (toT (ev2 (cmpK .NotEq) (evIsi "list" (evVar 0)) (evIsi "list" (evVar 1)))) (toT (ev2 (cmpK .NotEq) (evIsi "tuple" (evVar 0)) (evIsi "tuple" (evVar 1))))) (sCons (sRet (evK (.bl false)))
  (sNil)) (sNil))
  (sCons (sRet (boV .And (ev2 (cmpK .Eq) (evC kLen (aCons (evVar 0) (aNil))) (evC kLen (aCons (evVar 1) (aNil)))) (evC kAll (aCons (evN (evLc (evZip (aCons (evVar 0) (aCons (evVar 1) (aNil)))) (tUn [3, 4]) (evYes) (evCall 2 S (aCons (evVar 3) (aCons (evVar 4) (aNil)))) [3, 4])) (aNil)))))
  (sNil))) (sNil))
  (sCons (sIf (toT (evIsi "dict" (evVar 1))) (sCons (sIf (boT .Or (notT (toT (evIsi "dict" (evVar 0)))) (notT (toT (evCall 2 S (aCons (evN (evCN kList (aCons (evVar 0) (aNil)))) (aCons (evN (evCN kList (aCons (evVar 1) (aNil)))) (aNil))))))) (sCons (sRet (evK (.bl false)))
  (sNil)) (sNil))
  (sCons (sRet (evC kAll (aCons (evN (evLc (evK1 1) (tNm 2) (evYes) (evCall 2 S (aCons (ev2 (fun _ x y => opIx x y) (evVar 0) (evVar 2)) (aCons (ev2 (fun _ x y => opIx x y) (evVar 1) (evVar 2)) (aNil)))) [2])) (aNil))))
  (sNil))) (sNil))
  (sCons (sIf (toT (ev2 (cmpK .Is) (evVar 1) (evK .non))) (sCons (sRet (ev2 (cmpK .Is) (evVar 0) (evK .non)))
  (sNil)) (sNil))
  (sCons (sIf (toT (evIsi "bool" (evVar 1))) (sCons (sRet (boV .And (evIsi "bool" (evVar 0)) (ev2 (cmpK .Eq) (evVar 0) (evVar 1))))
  (sNil)) (sNil))
  (sCons (sIf (toT (evIsi "int" (evVar 1))) (sCons (sRet (boV .And (evIsi "int" (evVar 0)) (boV .And (toV (notT (toT (evIsi "bool" (evVar 0))))) (ev2 (cmpK .Eq) (evVar 0) (evVar 1)))))
  (sNil)) (sNil))
  (sCons (sRet (boV .And (evIsi "str" (evVar 0)) (ev2 (cmpK .Eq) (evVar 0) (evVar 1))))
  (sNil))))))

mutual
/-- alike but for eras, nested k deep at most -/
def al : Nat → D → D → Bool
  | _, .non, .non => true
  | _, .bl a, .bl b => a == b
  | _, .int a, .int b => a == b
  | _, .str a, .str b => a == b
  | k + 1, .lst _ xs, .lst _ ys => decide (xs.length < 2 ^ 20) && als k xs ys
  | k + 1, .tup xs, .tup ys => decide (xs.length < 2 ^ 20) && als k xs ys
  | k + 2, .dic _ xs, .dic _ ys => decide (xs.length < 2 ^ 20) && decide ((xs.map (·.1)).Nodup) && alk (k + 1) xs ys
  | _, _, _ => false
def als : Nat → List D → List D → Bool
  | _, [], [] => true
  | k, x :: xs, y :: ys => al k x y && als k xs ys
  | _, _, _ => false
def alk : Nat → List (Key × D) → List (Key × D) → Bool
  | _, [], [] => true
  | k, (a, x) :: xs, (b, y) :: ys => decide (a = b) && al k x y && alk k xs ys
  | _, _, _ => false
end
theorem als_len : ∀ {k : Nat} {xs ys : List D}, als k xs ys = true → xs.length = ys.length
  | _, [], [], _ => rfl
  | _, [], _ :: _, h => by simp [als] at h
  | _, _ :: _, [], h => by simp [als] at h
  | k, x :: xs, y :: ys, h => by
    have h : al k x y = true ∧ als k xs ys = true := by simpa [als] using h
    simp [als_len h.2]
theorem alk_keys : ∀ {k : Nat} {xs ys : List (Key × D)}, alk k xs ys = true → xs.map (·.1) = ys.map (·.1)
  | _, [], [], _ => rfl
  | _, [], _ :: _, h => by simp [alk] at h
  | _, _ :: _, [], h => by simp [alk] at h
  | k, (a, x) :: xs, (b, y) :: ys, h => by
    have h : (a = b ∧ al k x y = true) ∧ alk k xs ys = true := by simpa [alk] using h
    simp [h.1.1, alk_keys h.2]
def noOwnD : D → Bool
  | .own _ => false
  | _ => true
theorem al_own {k : Nat} {x y : D} (h : al k x y = true) : (∀ i, x ≠ .own i) ∧ ∀ i, y ≠ .own i := by
  constructor
  · rintro i rfl
    cases k <;> simp [al] at h
  · rintro i rfl
    cases x <;> rcases k with _ | _ | k <;> simp [al] at h
theorem pass1_of {ρ : Ro} {d : D} (h : ∀ i, d ≠ .own i) : pass1 ρ d = some d := by
  cases d with
  | own i => exact absurd rfl (h i)
  | _ => rfl
theorem passA2 {ρ : Ro} {x y : D} (hx : ∀ i, x ≠ .own i) (hy : ∀ i, y ≠ .own i) : passA ρ [x, y] = some [x, y] := by
  simp only [passA, pass1_of hx, pass1_of hy]
theorem rsv_of {ρ : Ro} {d : D} (h : ∀ i, d ≠ .own i) : rsv ρ d = some d := by
  cases d with
  | own i => exact absurd rfl (h i)
  | _ => rfl
section
variable {S : List D → Mu → Rf} {μ : Mu} {a b : D}
theorem call2 {ρ : Ro} {x y : D} {fx fy : Ro → Mu → Rs D} (ex : fx ρ μ = .ok x ρ μ) (ey : fy ρ μ = .ok y ρ μ) (hx : ∀ i, x ≠ .own i) (hy : ∀ i, y ≠ .own i) (h : S [x, y] μ = .ok (.bl true) μ) : evCall 2 S (aCons fx (aCons fy aNil)) ρ μ = .ok (.bl true) ρ μ := by
  simp [evCall, aCons, aNil, ex, ey, callF, passA2 hx hy, h, flatR]
theorem same_loop {k : Nat} (hS : ∀ x y, al k x y = true → S [x, y] μ = .ok (.bl true) μ) : ∀ (xs ys acc : List D), als k xs ys = true → acc.length + xs.length ≤ sizeLine →
    lcR (tUn [3, 4]) evYes (evCall 2 S (aCons (evVar 3) (aCons (evVar 4) aNil))) [3, 4] (zipD xs ys) acc [.val a, .val b, .un, .un, .un] μ = .ok (acc ++ xs.map fun _ => .bl true) [.val a, .val b, .un, .un, .un] μ
  | [], [], acc, _, _ => by simp [zipD, lcR]
  | [], _ :: _, _, h, _ => by simp [als] at h
  | _ :: _, [], _, h, _ => by simp [als] at h
  | x :: xs, y :: ys, acc, h, hl => by
    have h : al k x y = true ∧ als k xs ys = true := by simpa [als] using h
    have ih := same_loop hS xs ys (acc ++ [.bl true]) h.2 (by simp at hl ⊢; omega)
    have ho := al_own h.1
    have c := call2 (S := S) (μ := μ) (ρ := [.val a, .val b, .un, .val x, .val y]) (fx := evVar 3) (fy := evVar 4) (by simp [evVar]) (by simp [evVar]) ho.1 ho.2 (hS x y h.1)
    have hl' : decide (acc.length < sizeLine) = true := decide_eq_true (by simp at hl; omega)
    have hz : zipD (x :: xs) (y :: ys) = .tup [x, y] :: zipD xs ys := by simp [zipD]
    rw [hz, lcR]
    simp only [tUn, setVals, List.set_cons_succ, List.set_cons_zero, evYes, noX, Rs.bind_ok, if_true, c, datR, fz, isDat, hl', wipeR]
    rw [ih]
    simp
theorem keyD_d (k : Key) : keyD (dKey k) = some k := by cases k <;> rfl
theorem dKey_own (k : Key) : ∀ i, dKey k ≠ .own i := by cases k <;> intro i z <;> cases z
theorem same_loopK {k e e' : Nat} {kvs kws : List (Key × D)} (hS : ∀ x y, al k x y = true → S [x, y] μ = .ok (.bl true) μ) : ∀ (xs ys : List (Key × D)) (acc : List D), alk k xs ys = true → acc.length + xs.length ≤ sizeLine → (∀ p ∈ xs, lookD kvs p.1 = some p.2) → (∀ p ∈ ys, lookD kws p.1 = some p.2) →
    lcR (tNm 2) evYes (evCall 2 S (aCons (ev2 (fun _ x y => opIx x y) (evVar 0) (evVar 2)) (aCons (ev2 (fun _ x y => opIx x y) (evVar 1) (evVar 2)) aNil))) [2] (xs.map fun kv => dKey kv.1) acc [.val (.dic e kvs), .val (.dic e' kws), .un, .un, .un] μ = .ok (acc ++ xs.map fun _ => .bl true) [.val (.dic e kvs), .val (.dic e' kws), .un, .un, .un] μ
  | [], [], acc, _, _, _, _ => by simp [lcR]
  | [], _ :: _, _, h, _, _, _ => by simp [alk] at h
  | _ :: _, [], _, h, _, _, _ => by simp [alk] at h
  | (p, x) :: xs, (p', y) :: ys, acc, h, hl, hx, hy => by
    have h : (p = p' ∧ al k x y = true) ∧ alk k xs ys = true := by simpa [alk] using h
    obtain ⟨⟨rfl, h1⟩, h2⟩ := h
    have ih := same_loopK (e := e) (e' := e') hS xs ys (acc ++ [.bl true]) h2 (by simp at hl ⊢; omega) (fun q hq => hx q (by simp [hq])) (fun q hq => hy q (by simp [hq]))
    have ho := al_own h1
    have l1 : lookD kvs p = some x := hx (p, x) (by simp)
    have l2 : lookD kws p = some y := hy (p, y) (by simp)
    have c := call2 (S := S) (μ := μ) (ρ := [.val (.dic e kvs), .val (.dic e' kws), .val (dKey p), .un, .un]) (fx := ev2 (fun _ x y => opIx x y) (evVar 0) (evVar 2)) (fy := ev2 (fun _ x y => opIx x y) (evVar 1) (evVar 2))
      (by cases p <;> simp [ev2, evVar, two, rsv, dKey, opIx, keyD, l1, ret]) (by cases p <;> simp [ev2, evVar, two, rsv, dKey, opIx, keyD, l2, ret]) ho.1 ho.2 (hS x y h1)
    have hl' : decide (acc.length < sizeLine) = true := decide_eq_true (by simp at hl; omega)
    rw [List.map_cons, lcR]
    simp only [tNm, List.set_cons_succ, List.set_cons_zero, evYes, noX, Rs.bind_ok, if_true, c, datR, fz, isDat, hl', wipeR]
    rw [ih]
    simp
theorem alk_look : ∀ {xs : List (Key × D)}, (xs.map (·.1)).Nodup → ∀ p ∈ xs, lookD xs p.1 = some p.2
  | [], _, p, h => by simp at h
  | (k, x) :: xs, nd, p, h => by
    have nd : k ∉ xs.map (·.1) ∧ (xs.map (·.1)).Nodup := by simpa using nd
    rcases List.mem_cons.mp h with rfl | h
    · simp [lookD]
    · have hne : k ≠ p.1 := fun z => nd.1 (by rw [z]; exact List.mem_map_of_mem h)
      have := alk_look nd.2 p h
      unfold lookD at this ⊢
      rw [List.find?_cons]
      simp only [hne, decide_false]
      exact this
theorem als_keys : ∀ (k : Nat) (ks : List Key), als k (ks.map dKey) (ks.map dKey) = true
  | _, [] => by simp [als]
  | k, .inl i :: ks => by simp [als, dKey, al, als_keys k ks]
  | k, .inr i :: ks => by simp [als, dKey, al, als_keys k ks]
theorem all_true {c : Nat} : ∀ (n : List D), kAll c [.lst c (n.map fun _ => .bl true)] = some (.bl true) := fun n => by
  have : ∀ n : List D, blsD (n.map fun _ => .bl true) = some (n.map fun _ => true) := fun n => by
    induction n with
    | nil => rfl
    | cons x n ih => simp [blsD, ih]
  simp [kAll, this]
theorem shp_bl (b : Bool) : shp (.bl b) = true := rfl
def nAtom : D → Bool
  | .lst _ _ => true
  | .tup _ => true
  | .dic _ _ => true
  | _ => false
theorem same_step {k : Nat} (hS : nAtom a = true → ∀ x y, al k x y = true → S [x, y] μ = .ok (.bl true) μ) (h : al (k + 1) a b = true) : ((sameB S) [.val a, .val b, .un, .un, .un] μ).fin = .ok (.bl true) μ := by
  have sz : (2 : Nat) ^ 20 ≤ sizeLine := by rw [sizeLine_eq]; decide
  cases a with
  | non =>
    cases b <;> simp [al] at h
    simp [sameB, sCons, sNil, sIf, toT, toV, notT, boT, boV, evIsis, evIsi, ev1, ev2, one, two, evVar, evK, rsv, isiDs, isiD, tyName, isT, truR, tru, ret, cmpK, opCmp, opEq, sRet, datR, fz, isDat, Rs.fin]
  | bl p =>
    cases b <;> simp [al] at h
    subst h
    simp [sameB, sCons, sNil, sIf, toT, toV, notT, boT, boV, evIsis, evIsi, ev1, ev2, one, two, evVar, evK, rsv, isiDs, isiD, tyName, isT, truR, tru, ret, cmpK, opCmp, opEq, sRet, datR, fz, isDat, Rs.fin, shp_bl, deq]
  | int p =>
    cases b <;> simp [al] at h
    subst h
    simp [sameB, sCons, sNil, sIf, toT, toV, notT, boT, boV, evIsis, evIsi, ev1, ev2, one, two, evVar, evK, rsv, isiDs, isiD, tyName, isT, truR, tru, ret, cmpK, opCmp, opEq, sRet, datR, fz, isDat, Rs.fin]
  | str p =>
    cases b <;> simp [al] at h
    subst h
    simp [sameB, sCons, sNil, sIf, toT, toV, notT, boT, boV, evIsis, evIsi, ev1, ev2, one, two, evVar, evK, rsv, isiDs, isiD, tyName, isT, truR, tru, ret, cmpK, opCmp, opEq, sRet, datR, fz, isDat, Rs.fin]
  | lst e xs =>
    cases b with
    | lst e' ys =>
      have h : xs.length < 2 ^ 20 ∧ als k xs ys = true := by simpa [al] using h
      have l1 := als_len h.2
      have lp := same_loop (a := .lst e xs) (b := .lst e' ys) (hS rfl) xs ys [] h.2 (by simp; omega)
      simp only [List.nil_append] at lp
      have lc : evLc (evZip (aCons (evVar 0) (aCons (evVar 1) aNil))) (tUn [3, 4]) evYes (evCall 2 S (aCons (evVar 3) (aCons (evVar 4) aNil))) [3, 4] [.val (.lst e xs), .val (.lst e' ys), .un, .un, .un] μ = .ok (.nl μ.ec (xs.map fun _ => .bl true)) [.val (.lst e xs), .val (.lst e' ys), .un, .un, .un] μ := by
        simp [evLc, evZip, aCons, aNil, evVar, datsR, fzs, fz, isDat, noOwn, isOwn, wipeR, lp, noX, unw]
      have ka : kAll μ.ec [.lst μ.ec (xs.map fun _ => .bl true)] = some (.bl true) := all_true xs
      simp [sameB, sCons, sNil, sIf, toT, toV, notT, boT, boV, evIsis, evIsi, ev1, ev2, one, two, evVar, evK, rsv, isiDs, isiD, tyName, isT, truR, tru, ret, cmpK, opCmp, opEq, sRet, datR, fz, isDat, Rs.fin, shp_bl, deq, evC, aCons, aNil, rsvs, kLen, l1, evN, lc, NV.d, ka]
    | _ => simp [al] at h
  | tup xs =>
    cases b with
    | tup ys =>
      have h : xs.length < 2 ^ 20 ∧ als k xs ys = true := by simpa [al] using h
      have l1 := als_len h.2
      have lp := same_loop (a := .tup xs) (b := .tup ys) (hS rfl) xs ys [] h.2 (by simp; omega)
      simp only [List.nil_append] at lp
      have lc : evLc (evZip (aCons (evVar 0) (aCons (evVar 1) aNil))) (tUn [3, 4]) evYes (evCall 2 S (aCons (evVar 3) (aCons (evVar 4) aNil))) [3, 4] [.val (.tup xs), .val (.tup ys), .un, .un, .un] μ = .ok (.nl μ.ec (xs.map fun _ => .bl true)) [.val (.tup xs), .val (.tup ys), .un, .un, .un] μ := by
        simp [evLc, evZip, aCons, aNil, evVar, datsR, fzs, fz, isDat, noOwn, isOwn, wipeR, lp, noX, unw]
      have ka : kAll μ.ec [.lst μ.ec (xs.map fun _ => .bl true)] = some (.bl true) := all_true xs
      simp [sameB, sCons, sNil, sIf, toT, toV, notT, boT, boV, evIsis, evIsi, ev1, ev2, one, two, evVar, evK, rsv, isiDs, isiD, tyName, isT, truR, tru, ret, cmpK, opCmp, opEq, sRet, datR, fz, isDat, Rs.fin, shp_bl, deq, evC, aCons, aNil, rsvs, kLen, l1, evN, lc, NV.d, ka]
    | _ => simp [al] at h
  | dic e xs =>
    cases k with
    | zero => cases b <;> simp [al] at h
    | succ k =>
    cases b with
    | dic e' ys =>
      have h : (xs.length < 2 ^ 20 ∧ (xs.map (·.1)).Nodup) ∧ alk (k + 1) xs ys = true := by simpa [al] using h
      have hk := alk_keys h.2
      have hl : (xs.map fun kv => dKey kv.1) = (ys.map fun kv => dKey kv.1) := by
        have := congrArg (List.map dKey) hk
        simpa [List.map_map, Function.comp_def] using this
      have nd2 : (ys.map (·.1)).Nodup := by rw [← hk]; exact h.1.2
      have lp := same_loopK (e := e) (e' := e') (kvs := xs) (kws := ys) (hS rfl) xs ys [] h.2 (by simp; omega) (alk_look h.1.2) (alk_look nd2)
      simp only [List.nil_append] at lp
      have lc : evLc (evK1 1) (tNm 2) evYes (evCall 2 S (aCons (ev2 (fun _ x y => opIx x y) (evVar 0) (evVar 2)) (aCons (ev2 (fun _ x y => opIx x y) (evVar 1) (evVar 2)) aNil))) [2] [.val (.dic e xs), .val (.dic e' ys), .un, .un, .un] μ = .ok (.nl μ.ec (xs.map fun _ => .bl true)) [.val (.dic e xs), .val (.dic e' ys), .un, .un, .un] μ := by
        simp [evLc, evK1, datR, fz, isDat, itemsK, ← hl, noOwn, isOwn, wipeR, lp, noX, unw]
      have ka : kAll μ.ec [.lst μ.ec (xs.map fun _ => .bl true)] = some (.bl true) := by
        have : ∀ n : List (Key × D), blsD (n.map fun _ => .bl true) = some (n.map fun _ => true) := fun n => by
          induction n with
          | nil => rfl
          | cons x n ih => simp [blsD, ih]
        simp [kAll, this]
      have sk : S [.lst μ.ec (xs.map fun kv => dKey kv.1), .lst μ.ec (ys.map fun kv => dKey kv.1)] μ = .ok (.bl true) μ := by
        refine hS rfl _ _ ?_
        have := als_keys k (xs.map (·.1))
        rw [List.map_map] at this
        rw [← hl]
        simp only [al, Bool.and_eq_true, decide_eq_true_eq]
        exact ⟨by simpa using h.1.1, this⟩
      simp [sameB, sCons, sNil, sIf, toT, toV, notT, boT, boV, evIsis, evIsi, ev1, ev2, one, two, evVar, evK, rsv, isiDs, isiD, tyName, isT, truR, tru, ret, cmpK, opCmp, opEq, sRet, datR, fz, isDat, Rs.fin, shp_bl, deq, evC, evCN, retN, aCons, aNil, rsvs, kList, evN, NV.d, evCall, callF, passA, pass1, sk, flatR, lc, ka]
    | _ => simp [al] at h
  | _ => cases b <;> simp [al] at h
/-- the laws' own sameness says yes of what is alike -/
theorem same_ok {S : Nat → List D → Mu → Rf} {c : Nat} (hF : ∀ j, c ≤ j → ∀ ds μ, S (j + 1) ds μ = (sameB (S j) (rho0 5 ds) μ).fin) (μ : Mu) : ∀ (k j : Nat) (x y : D), c + k ≤ j → al k x y = true → S (j + 1) [x, y] μ = .ok (.bl true) μ := by
  intro k
  induction k with
  | zero =>
    intro j x y hj h
    rw [hF j (by omega)]
    have h1 : al 1 x y = true ∧ nAtom x = false := by
      cases x <;> cases y <;> simp [al] at h <;> simp [al, nAtom, h]
    exact same_step (S := S j) (k := 0) (fun z => by rw [h1.2] at z; cases z) h1.1
  | succ k ih =>
    intro j x y hj h
    rw [hF j (by omega)]
    obtain ⟨j', rfl⟩ : ∃ j', j = j' + 1 := ⟨j - 1, by omega⟩
    exact same_step (S := S (j' + 1)) (k := k) (fun _ u v q => ih j' u v (by omega) q) h
end
end GW

set_option maxHeartbeats 2000000
/-! a thing that is changed for good while several names stand for it -/
namespace GW
open PySem PySem.Spec PyProof.Rows L2
/-- the drawn things, changed some times -/
inductive ObW (s ka : Str) : D → Prop
  | non : ObW s ka .non
  | bl (b : Bool) : ObW s ka (.bl b)
  | int (i : Int) : ObW s ka (.int i)
  | str (x : Str) : ObW s ka (.str x)
  | tup (i j : Int) : ObW s ka (.tup [.int i, .int j])
  | lst (e e2 : Nat) (i : Int) (k : Nat) (h : k ≤ 3) : ObW s ka (.lst e (.int i :: .lst e2 [.int 1] :: List.replicate k (.str s)))
  | dic (e : Nat) (i : Int) : ObW s ka (.dic e [(.inr ka, .int i)])
  | dic2 (e : Nat) (i : Int) : ObW s ka (.dic e [(.inr ka, .int i), (.inr s, .int 1)])
def nodeD : D → Bool
  | .lst _ _ => true
  | .dic _ _ => true
  | _ => false
def moreD (s ka : Str) : D → D
  | .lst e xs => .lst e (xs ++ [.str s])
  | .dic e ((k, x) :: _) => .dic e [(k, x), (.inr s, .int 1)]
  | d => d
section
variable {g : Gd} {X : Cx} {W : WX} {σ : St} {er : Er} {H : Hp} {ρ : Ro} {μ : Mu} {c : Nat} {av : Addr → Prop} {bl : List Str} {n : Nat} {N : List Str} {sc : Scope}
def chW (w : V) (d : D) : Addr → Prop := fun b => w = .ref b ∧ nodeD d = true
def spW (g : Gd) (s ka : Str) : Sp := fun vs H Q _ => ∃ (av : Addr → Prop) (er : Er) (μ : Mu) (w : V) (d : D), vs = [w, w] ∧ HpOk (g.at av) er H μ ∧ RepD (g.at av) er μ.ec H NoOw w d ∧ ObW s ka d ∧ (∀ e kvs, d = .dic e kvs → ∀ a o u, w = .ref a → H a ≠ some (.frz o u)) ∧
  ∀ H' er', HpOk (g.at av) er' H' μ → Ext (g.at av) (chW w d) er μ.ec H er' μ.ec H' → RepD (g.at av) er' μ.ec H' NoOw w (moreD s ka d) → Q (.bl true) H'
theorem noOw2 {d1 d2 : D} {σ : St} {a : Addr} : ¬ Ow [SV.val d1, .val d2] σ a := fun ⟨i, o, _⟩ => by
  obtain ⟨s, h1, h2⟩ := isOw_iff.mp o
  match i with
  | 0 => cases h1; cases h2
  | 1 => cases h1; cases h2
  | i + 2 => simp at h1
theorem env_2 {w : V} {d : D} (r : RepD g er c H NoOw w d) : RepEnv g er c H [.val d, .val d] [some w, some w] := by
  have less : ∀ {v : V} {d' : D}, RepD g er c H NoOw v d' → RepV g er c (Ow [SV.val d, .val d] [some w, some w]) H v d' := fun {v d'} r => .d (RepD.less (fun a h => (noOw2 h).elim) r)
  have noI : ∀ i, ¬ isOw [SV.val d, .val d] i := fun i o => by
    obtain ⟨s, h1, h2⟩ := isOw_iff.mp o
    match i with
    | 0 => cases h1; cases h2
    | 1 => cases h1; cases h2
    | i + 2 => simp at h1
  refine ⟨rfl, fun i d' e => ?_, fun i e xs q => (noI i (.inl ⟨e, xs, q⟩)).elim, fun i e xs q => (noI i (.inr ⟨e, xs, q⟩)).elim, fun i j a h1 => (noI i h1).elim⟩
  match i with
  | 0 => cases e; exact ⟨w, rfl, less r⟩
  | 1 => cases e; exact ⟨w, rfl, less r⟩
  | i + 2 => simp at e
theorem reps_strN (s : Str) : ∀ k : Nat, RepDs g er c H NoOw (List.replicate k (V.str s)) (List.replicate k (.str s))
  | 0 => .nil
  | k + 1 => .cons (.str s) (reps_strN s k)
theorem repsN_inv {s : Str} : ∀ {k : Nat} {vs : List V}, RepDs g er c H NoOw vs (List.replicate k (.str s)) → vs = List.replicate k (V.str s)
  | 0, _, .nil => rfl
  | k + 1, _, .cons h r => by cases h; rw [repsN_inv r]; rfl
/-- the body: if isinstance(thing, list): append; if isinstance(thing, dict): put; return same(kept, thing) -/
theorem very_w {xd s ka : Str} {c0 c1 : Expr} {a3 : Stmt} {f0 f1 : Ro → Mu → Rs Bool} {f3 : Ro → Mu → Rs Fl} {np ap kp cp p1 pos np2 kp2 vp pp p2 pos2 : Pos} {j j2 j3 : Nat} {Q : VK} {w : V} {d : D}
    (C : Cxt g bl n N sc X) (hd : nmB N sc 1 xd = true) (hk : ka ≠ s) (O0 : OkT g X c0 f0) (O1 : OkT g X c1 f1) (O3 : OkS g X a3 f3) (tk : Takes X W) (P : HpOk (g.at av) er H μ) (r : RepD (g.at av) er μ.ec H NoOw w d) (ho : ObW s ka d) (hu : ∀ e kvs, d = .dic e kvs → ∀ a o u, w = .ref a → H a ≠ some (.frz o u))
    (k0 : ∀ d, ObW s ka d → f0 [.val d, .val d] μ = .ok (match d with | .lst _ _ => true | _ => false) [.val d, .val d] μ)
    (k1 : ∀ d, ObW s ka d ∨ (∃ e i k, d = .lst e (.int i :: .lst e [.int 1] :: List.replicate k (.str s))) ∨ (∃ d', ObW s ka d' ∧ d = moreD s ka d') → f1 [.val d, .val d] μ = .ok (match d with | .dic _ _ => true | _ => false) [.val d, .val d] μ)
    (k3 : ∀ d, ObW s ka d → ∃ ρ', f3 [.val (moreD s ka d), .val (moreD s ka d)] μ = .ok (.rt (.bl true)) ρ' μ)
    (q : ∀ H' er', HpOk (g.at av) er' H' μ → Ext (g.at av) (chW w d) er μ.ec H er' μ.ec H' → RepD (g.at av) er' μ.ec H' NoOw w (moreD s ka d) → Q (.bl true) H')
    (hbase : attributeBase (.Name xd np) "append" X.env (eval (.Name xd np) X.env) = eval (.Name xd np) X.env := by rfl)
    (hfew : ((backTo cp (starEach [.Constant (.str s) j kp] X.env)).all (fun x => !x.1) && (backToKw cp (keywordEach [] X.env)).all (fun x => x.1.isSome)
      && decide (([.Constant (.str s) j kp] : List Expr).length + ([] : List Keyword).length + (if ([] : List Keyword).isEmpty then 0 else 1) < 30)) = true := by rfl)
    (hline : (ap.endLine == cp.line) = true := by rfl) :
    RunSs X (.If c0 [.Expr (.Call (.Attribute (.Name xd np) "append" ap) [.Constant (.str s) j kp] [] cp) p1] [] pos :: .If c1 [.Assign [.Subscript (.Name xd np2) (.Constant (.str s) j2 kp2) pp] (.Constant (.int 1) j3 vp) p2] [] pos2 :: [a3]) { nx := fun _ H' => Q .non H', rt := Q } [some w, some w] H := by
  -- the last statement
  have fin : ∀ {H1 : Hp} {er1 : Er}, HpOk (g.at av) er1 H1 μ → Ext (g.at av) (chW w d) er μ.ec H er1 μ.ec H1 → RepD (g.at av) er1 μ.ec H1 NoOw w (moreD s ka d) → RunS X a3 { nx := fun _ H' => Q .non H', rt := Q } [some w, some w] H1 := fun {H1 er1} P1 x1 r1 => by
    obtain ⟨ρ', e⟩ := k3 d ho
    refine O3 av W _ er1 H1 _ μ _ tk (env_2 r1) P1 ?_
    rw [e]
    intro v σ2 H2 er2 n2 rv
    cases rv
    have x2 : Ext (g.at av) NoOw er1 μ.ec H1 er2 μ.ec H2 := n2.x.mono fun x z => (noOw2 z).elim
    exact q H2 er2 n2.hp (x1.trans (x2.mono (ow' := chW w d) fun b z => (z : False).elim) fun b z => .inl z) (RepD.ext x2 (fun a z => (z : False).elim) P1.sal (fun a z => (z : False).elim) r1)
  refine .of (pss_cons (ps_if ptR (pss_one psR) pss_nil) (pss_cons (ps_if ptR (pss_one psR) pss_nil) (pss_one psR))) ?_
  refine O0 av W _ er H _ μ _ tk (env_2 r) P ?_
  rw [k0 d ho]
  intro H1 er1 n1
  have x1 : Ext (g.at av) NoOw er μ.ec H er1 μ.ec H1 := n1.x.mono fun x z => (noOw2 z).elim
  have r1 : RepD (g.at av) er1 μ.ec H1 NoOw w d := RepD.ext x1 (fun a z => (z : False).elim) P.sal (fun a z => (z : False).elim) r
  have x1' : Ext (g.at av) (chW w d) er μ.ec H er1 μ.ec H1 := x1.mono fun b z => (z : False).elim
  -- the second test, where nothing is put
  have second : ∀ {H2 : Hp} {er2 : Er} {t : D}, (match t with | .dic _ _ => true | _ => false) = false → (ObW s ka t ∨ (∃ e i k, t = .lst e (.int i :: .lst e [.int 1] :: List.replicate k (.str s))) ∨ ∃ d', ObW s ka d' ∧ t = moreD s ka d') → t = moreD s ka d → HpOk (g.at av) er2 H2 μ → Ext (g.at av) (chW w d) er μ.ec H er2 μ.ec H2 → RepD (g.at av) er2 μ.ec H2 NoOw w t →
      RunT X c1 [some w, some w] H2 fun b H3 => if b = true then RunS X (.Assign [.Subscript (.Name xd np2) (.Constant (.str s) j2 kp2) pp] (.Constant (.int 1) j3 vp) p2) { nx := fun σ' H' => RunS X a3 { nx := fun _ H' => Q .non H', rt := Q } σ' H', rt := Q } [some w, some w] H3 else RunS X a3 { nx := fun _ H' => Q .non H', rt := Q } [some w, some w] H3 := fun {H2 er2 t} hn ht et P2 x2 r2 => by
    refine O1 av W _ er2 H2 _ μ _ tk (env_2 r2) P2 ?_
    rw [k1 t ht, hn]
    intro H3 er3 n3
    have x3 : Ext (g.at av) NoOw er2 μ.ec H2 er3 μ.ec H3 := n3.x.mono fun x z => (noOw2 z).elim
    refine iteF (fin n3.hp (x2.trans (x3.mono (ow' := chW w d) fun b z => (z : False).elim) fun b z => .inl z) ?_)
    rw [← et]
    exact RepD.ext x3 (fun a z => (z : False).elim) P2.sal (fun a z => (z : False).elim) r2
  cases ho with
  | lst e e2 i k hkk =>
    refine iteT ?_
    cases r1 with
    | @lst a _ vs _ h he hf rr =>
    cases rr with
    | cons ra rr =>
    cases rr with
    | cons rb rr =>
    cases ra
    cases rb with
    | @lst b _ us _ hb heb hfb rb =>
    have hba : b ≠ a := fun z => by
      rw [z, h] at hb
      cases hb
      cases rb with
      | cons r1 r2 => cases r2
    have hvs := repsN_inv rr
    subst hvs
    have hl : (.int i :: .ref b :: List.replicate k (V.str s)).length < sizeLine := by rw [sizeLine_eq]; simp; omega
    refine run_app C hd rfl h hl ?_ hbase hfew hline
    have P2 := hp_upd (o' := .lst (.int i :: .ref b :: List.replicate k (V.str s) ++ [.str s])) n1.hp h hf.2.2.1 hf.2.2.2 (fun _ z => nomatch z) (fun _ z => nomatch z)
    have x2 : Ext (g.at av) (chW (.ref a) (.lst e (.int i :: .lst e2 [.int 1] :: List.replicate k (.str s)))) er1 μ.ec H1 er1 μ.ec (upd H1 a (.lst (.int i :: .ref b :: List.replicate k (V.str s) ++ [.str s]))) := ext_mut ⟨rfl, rfl⟩
    have hb' : upd H1 a (.lst (.int i :: .ref b :: List.replicate k (V.str s) ++ [.str s])) b = some (.lst us) := by rw [upd_ne hba]; exact hb
    have rb' : RepDs (g.at av) er1 μ.ec (upd H1 a (.lst (.int i :: .ref b :: List.replicate k (V.str s) ++ [.str s]))) NoOw us [.int 1] := by
      cases rb with
      | cons r1 r2 => cases r1; cases r2; exact .cons (.int 1) .nil
    have r2 : RepD (g.at av) er1 μ.ec (upd H1 a (.lst (.int i :: .ref b :: List.replicate k (V.str s) ++ [.str s]))) NoOw (.ref a) (moreD s ka (.lst e (.int i :: .lst e2 [.int 1] :: List.replicate k (.str s)))) := by
      refine .lst upd_same he hf ?_
      exact .cons (.int i) (.cons (.lst hb' heb hfb rb') ((reps_strN s k).append (.cons (.str s) .nil)))
    exact second rfl (.inr (.inr ⟨_, .lst e e2 i k hkk, rfl⟩)) rfl P2 (x1'.trans x2 fun b z => .inl z) r2
  | dic e i =>
    refine iteF ?_
    refine O1 av W _ er1 H1 _ μ _ tk (env_2 r1) n1.hp ?_
    rw [k1 _ (.inl (.dic e i))]
    intro H2 er2 n2
    have x2 : Ext (g.at av) NoOw er1 μ.ec H1 er2 μ.ec H2 := n2.x.mono fun x z => (noOw2 z).elim
    have x02 := x1.trans x2 fun b z => (z : False).elim
    refine iteT ?_
    cases r with
    | @dic a _ vs _ h he hf nd rr =>
    cases rr with
    | cons ra rr =>
    cases rr
    cases ra
    have hH : H a = some (.dK [(.inr ka, .int i)]) := h.elim id fun ⟨o, z⟩ => absurd z (hu _ _ rfl a _ _ rfl)
    have h2 : H2 a = some (.dK [(.inr ka, .int i)]) := x02.same a _ hH id hf.2.2.1 hf.2.2.2 rfl
    have he2 := he.ext x02 (rd_ne (.inl hH))
    have hk' : (Sum.inr ka : Key) ≠ Sum.inr s := fun z => hk (Sum.inr.inj z)
    have ep : putK [((.inr ka : Key), (V.int i))] (.inr s) (.int 1) = [(.inr ka, .int i), (.inr s, .int 1)] := by
      unfold putK
      rw [if_neg (by simp [hk'])]; rfl
    refine run_dput C hd rfl h2 (by rw [sizeLine_eq]; simp) ?_
    rw [ep]
    have P3 := hp_upd (o' := .dK [(.inr ka, .int i), (.inr s, .int 1)]) n2.hp h2 hf.2.2.1 hf.2.2.2 (fun _ z => nomatch z) (fun _ z => nomatch z)
    have x3 : Ext (g.at av) (chW (.ref a) (.dic e [(.inr ka, .int i)])) er2 μ.ec H2 er2 μ.ec (upd H2 a (.dK [(.inr ka, .int i), (.inr s, .int 1)])) := ext_mut ⟨rfl, rfl⟩
    refine fin P3 ((x02.mono (ow' := chW (.ref a) (.dic e [(.inr ka, .int i)])) fun b z => (z : False).elim).trans x3 fun b z => .inl z) ?_
    exact .dic (.inl upd_same) he2 hf (by simpa using hk) (.cons (.int i) (.cons (.int 1) .nil))
  | dic2 e i =>
    refine iteF ?_
    refine O1 av W _ er1 H1 _ μ _ tk (env_2 r1) n1.hp ?_
    rw [k1 _ (.inl (.dic2 e i))]
    intro H2 er2 n2
    have x2 : Ext (g.at av) NoOw er1 μ.ec H1 er2 μ.ec H2 := n2.x.mono fun x z => (noOw2 z).elim
    have x02 := x1.trans x2 fun b z => (z : False).elim
    refine iteT ?_
    cases r with
    | @dic a _ vs _ h he hf nd rr =>
    cases rr with
    | cons ra rr =>
    cases rr with
    | cons rb rr =>
    cases rr
    cases ra
    cases rb
    have hH : H a = some (.dK [(.inr ka, .int i), (.inr s, .int 1)]) := h.elim id fun ⟨o, z⟩ => absurd z (hu _ _ rfl a _ _ rfl)
    have h2 : H2 a = some (.dK [(.inr ka, .int i), (.inr s, .int 1)]) := x02.same a _ hH id hf.2.2.1 hf.2.2.2 rfl
    have he2 := he.ext x02 (rd_ne (.inl hH))
    have hk' : (Sum.inr ka : Key) ≠ Sum.inr s := fun z => hk (Sum.inr.inj z)
    have ep : putK [((.inr ka : Key), (V.int i)), (.inr s, .int 1)] (.inr s) (.int 1) = [(.inr ka, .int i), (.inr s, .int 1)] := by
      unfold putK
      rw [if_pos (by simp)]
      simp [hk]
    refine run_dput C hd rfl h2 (by rw [sizeLine_eq]; simp) ?_
    rw [ep]
    have P3 := hp_upd (o' := .dK [(.inr ka, .int i), (.inr s, .int 1)]) n2.hp h2 hf.2.2.1 hf.2.2.2 (fun _ z => nomatch z) (fun _ z => nomatch z)
    have x3 : Ext (g.at av) (chW (.ref a) (.dic e [(.inr ka, .int i), (.inr s, .int 1)])) er2 μ.ec H2 er2 μ.ec (upd H2 a (.dK [(.inr ka, .int i), (.inr s, .int 1)])) := ext_mut ⟨rfl, rfl⟩
    refine fin P3 ((x02.mono (ow' := chW (.ref a) (.dic e [(.inr ka, .int i), (.inr s, .int 1)])) fun b z => (z : False).elim).trans x3 fun b z => .inl z) ?_
    exact .dic (.inl upd_same) he2 hf (by simpa using hk) (.cons (.int i) (.cons (.int 1) .nil))
  | non => exact iteF (second rfl (.inl .non) rfl n1.hp x1' r1)
  | bl b => exact iteF (second rfl (.inl (.bl b)) rfl n1.hp x1' r1)
  | int i => exact iteF (second rfl (.inl (.int i)) rfl n1.hp x1' r1)
  | str i => exact iteF (second rfl (.inl (.str i)) rfl n1.hp x1' r1)
  | tup i j => exact iteF (second rfl (.inl (.tup i j)) rfl n1.hp x1' r1)
end
end GW

set_option maxHeartbeats 2000000
/-! all([very(one, thing) for one in kept]), kept: the thing, the thing -/
namespace GW
open PySem PySem.Spec PyProof.Rows L2
section
variable {g : Gd} {X : Cx} {W : WX} {σ : St} {er : Er} {H : Hp} {ρ : Ro} {μ : Mu} {c : Nat} {av : Addr → Prop} {bl : List Str} {n : Nat} {N : List Str} {sc : Scope}
/-- what has to do with no object -/
def plainS : SV → SV
  | .val .non => .val .non
  | .val (.bl b) => .val (.bl b)
  | .val (.int i) => .val (.int i)
  | .val (.str s) => .val (.str s)
  | .val .sta => .val .sta
  | _ => .un
def plainR (ρ : Ro) : Ro := ρ.map plainS
theorem plain_no {i : Nat} (h : isOw (plainR ρ) i) : False := by
  obtain ⟨sv, h1, h2⟩ := isOw_iff.mp h
  unfold plainR at h1
  rw [List.getElem?_map] at h1
  obtain ⟨s, _, rfl⟩ := Option.map_eq_some_iff.mp h1
  unfold plainS at h2
  split at h2 <;> cases h2
theorem plain_env {er' : Er} {c' : Nat} {H' : Hp} (E : RepEnv g er c H ρ σ) : RepEnv g er' c' H' (plainR ρ) σ := by
  refine ⟨by unfold plainR; rw [List.length_map]; exact E.len, fun i d e => ?_, fun i e xs q => (plain_no (.inl ⟨e, xs, q⟩)).elim, fun i e xs q => (plain_no (.inr ⟨e, xs, q⟩)).elim, fun i j a h => (plain_no h).elim⟩
  unfold plainR at e
  rw [List.getElem?_map] at e
  obtain ⟨s, e1, e2⟩ := Option.map_eq_some_iff.mp e
  unfold plainS at e2
  split at e2 <;> cases e2
  · obtain ⟨v, h1, h2⟩ := E.val i _ e1
    cases h2 with | d h => cases h; exact ⟨_, h1, .d .non⟩
  · obtain ⟨v, h1, h2⟩ := E.val i _ e1
    cases h2 with | d h => cases h; exact ⟨_, h1, .d (.bl _)⟩
  · obtain ⟨v, h1, h2⟩ := E.val i _ e1
    cases h2 with | d h => cases h; exact ⟨_, h1, .d (.int _)⟩
  · obtain ⟨v, h1, h2⟩ := E.val i _ e1
    cases h2 with | d h => cases h; exact ⟨_, h1, .d (.str _)⟩
  · obtain ⟨v, h1, h2⟩ := E.val i _ e1
    cases h2 with
    | d h => cases h
    | sta => exact ⟨_, h1, .sta⟩
structure FunW (g : Gd) (X : Cx) (k : Nat) (x s ka : Str) : Prop where
  ex : ∃ (f : Addr) (fd : FuncData) (ps : List Str), FnOk X.prog X.w X.K X.mg X.base (L2.CX X.prog X.w) k f fd ps (spW g s ka) ∧ X.mg x = some (.ref f) ∧ PySem.W.keepIn X.K (.ref f) = true ∧ L2.Binds X.K fd ps []
theorem FunW.blk {k : Nat} {x y ka : Str} {s : Shared} {H : Hp} {scope : Scope} {ce : Env} {fp : List Addr} (h : FunW g X k x y ka) : FunW g (X.blk s H scope ce fp) k x y ka := ⟨h.ex⟩
theorem moreD_node {s ka : Str} {d : D} (h : ObW s ka d) : nodeD (moreD s ka d) = nodeD d := by cases h <;> rfl
theorem ofV_inv {v w : V} (h : RepD g er c H (Ow ρ σ) w (ofV v)) : w = v := toV1_rep h (by cases v <;> rfl)
theorem OkAS.veryW {x s ka y1 yt yk : Str} {i1 it ik : Nat} {A : List Stmt} {scope : Scope} {p p1 p2 cp tp kp lpos ap acp up pos : Pos} (C : Cxt g bl n N sc X) (FW : FunW g X n x s ka) (ha : bnB sc bl "all" = true) (hx0 : gnB (relS scope sc) x = true) (ok : blkB N sc scope [(y1, i1)] = true) (h1 : nlB N (relS scope sc) i1 y1 = true) (h1' : nmB N (relS scope sc) i1 y1 = true)
    (ht : nmB N (relS scope sc) it yt = true) (hk : nmB N sc ik yk = true) (hne : i1 ≠ it) (hls : ∀ z, foldedSetIterable (.Name yk kp) X.env z = pure z) (hal : ∀ whole, isTrue (.Call (.Name "all" ap) [.ListComp (.Call (.Name x p) [.Name y1 p1, .Name yt p2] [] cp) [⟨.Name y1 tp, .Name yk kp, [], 0⟩] scope lpos] [] acp) X.env whole = (do let v ← whole; standAt acp; holding [v] (truthy v)))
    (hea : starEach [.ListComp (.Call (.Name x p) [.Name y1 p1, .Name yt p2] [] cp) [⟨.Name y1 tp, .Name yk kp, [], 0⟩] scope lpos] X.env = (false, eval (.ListComp (.Call (.Name x p) [.Name y1 p1, .Name yt p2] [] cp) [⟨.Name y1 tp, .Name yk kp, [], 0⟩] scope lpos) X.env) :: starEach [] X.env) (hpla : (backTo acp (starEach [] X.env)).any (·.1) = false)
    (he : ∀ env, starEach [.Name y1 p1, .Name yt p2] env = (false, eval (.Name y1 p1) env) :: starEach [.Name yt p2] env) (he2 : ∀ env, starEach [.Name yt p2] env = (false, eval (.Name yt p2) env) :: starEach [] env) (hpl : ∀ env, (backTo cp (starEach [.Name yt p2] env)).any (·.1) = false) (r : Nat → Ro → Mu → Rs Fl)
    (hx : ∀ k ρ μ x fs ρ' μ', r k ρ μ ≠ .ex x fs ρ' μ')
    (hr : ∀ k ρ μ o ρ' μ', r k ρ μ = .ok o ρ' μ' → o = .nx ∧ μ' = μ ∧ ρ' = plainR ρ ∧ i1 < ρ.length ∧ ∃ v d e, ρ[ik]? = some (.val (.lst e [ofV v, ofV v])) ∧ ρ[it]? = some (.val (.lab v d)) ∧ ObW s ka d ∧ ObW s ka (moreD s ka d) ∧ newD k d = true) :
    OkAS g X [.If (.UnaryOp .Not (.Call (.Name "all" ap) [.ListComp (.Call (.Name x p) [.Name y1 p1, .Name yt p2] [] cp) [⟨.Name y1 tp, .Name yk kp, [], 0⟩] scope lpos] [] acp) up) A [] pos] r := by
  intro av W σ0 er0 H0 ρ0 μ0 σ er H ρ μ Z tk m h
  cases e : r μ0.ec ρ μ with
  | no => rw [e] at h; exact h.elim
  | ex x fs ρ' μ' => exact absurd e (hx _ _ _ _ _ _ _)
  | ok o ρ' μ' =>
    obtain ⟨rfl, rfl, rfl, hi1, v, d, el, e1, e2, o1, o2, nd⟩ := hr _ _ _ _ _ _ e
    rw [e] at h
    have h : ∀ σ' H' er', NxS (g.at av) σ0 er0 H0 ρ0 μ0 σ' er' H' (plainR ρ) μ' → Z.nx σ' H' := h
    obtain ⟨f, fd, ps, Fk, hm, kpp, hb⟩ := FW.ex
    obtain ⟨a1, a2, a3, a4⟩ := nmB_ok hk
    obtain ⟨b1, b2, b3, b4⟩ := nmB_ok h1'
    obtain ⟨c1, c2, c3, c4⟩ := nmB_ok ht
    have E := m.env
    have P := m.hp
    -- the list, the thing
    obtain ⟨lk, hlk, sk, lsa, lsb⟩ : ∃ lk, H lk = some (.lst [v, v]) ∧ σ[ik]? = some (some (.ref lk)) ∧ lk ≠ g.sa ∧ lk ≠ g.sb := by
      obtain ⟨u, s1, r1⟩ := E.val ik _ e1
      have r1 := dat_rep r1 rfl
      cases r1 with
      | lst hh he hf rr =>
      cases rr with
      | cons ra rr =>
      cases rr with
      | cons rb rr =>
      cases rr
      have q1 := ofV_inv ra
      have q2 := ofV_inv rb
      subst q1 q2
      exact ⟨_, hh, s1, hf.2.2⟩
    obtain ⟨st, rt⟩ : σ[it]? = some (some v) ∧ RepD (g.at av) er μ'.ec H (Ow ρ σ) v d := by
      obtain ⟨u, s1, r1⟩ := E.val it _ e2
      have r1 := dat_rep r1 rfl
      cases r1 with
      | lab q => exact ⟨s1, q⟩
    -- where a node stands
    have late : ∀ b, chW v d b → H0 b = none ∧ (∀ o u, H b ≠ some (.frz o u)) ∧ b ≠ lk ∧ H b ≠ none := fun b ⟨ev, hn⟩ => by
      subst ev
      cases rt with
      | @lst _ ee vs ds hh he hf rr =>
        refine ⟨?_, (fun o u z => by rw [hh] at z; cases z), (fun z => ?_), (by rw [hh]; exact fun z => nomatch z)⟩
        · cases q : H0 b with
          | none => rfl
          | some o => exact absurd (m.x.new b ee (by rw [q]; exact fun z => nomatch z) (new_lst' nd).1.1 he.1) he.2.1
        · rw [z, hlk] at hh
          cases hh
          cases o1 with
          | lst _ _ _ _ _ => cases rr with | cons ra _ => cases ra
      | @dic _ ee vs ds hh he hf nn rr =>
        have nf := nf_of m b ee (new_dic' nd).1.1 he.1 he.2.1
        refine ⟨?_, nf, fun z => ?_, rd_ne hh⟩
        · cases q : H0 b with
          | none => rfl
          | some o => exact absurd (m.x.new b ee (by rw [q]; exact fun z => nomatch z) (new_dic' nd).1.1 he.1) he.2.1
        · rcases hh with hh | ⟨o, hh⟩
          · rw [z, hlk] at hh; cases hh
          · rw [z, hlk] at hh; cases hh
      | _ => cases hn
    refine .of (pss_one (ps_if (pt_not (pt_val (pe_callB (cr_all C.calm) (C.gl (bnB_ok ha).1) (C.non (bnB_ok ha).2) (by kernel_rfl) (pa_cons (pe_lcU C (blkB_ok ok) hls) pa_nil hea) (by decide +kernel) (by decide +kernel) hea hpla) hal)) pssR pss_nil)) ?_
    refine .of (pi_any3 (pe_var (i := ik) (C.at a1) (by rw [C.hsc]; exact a2) a3 a4)) ⟨_, sk, .inl ⟨lk, rfl, ⟨_, .of hlk⟩, fun Dd hD => ?_⟩⟩
    have sN := new_lst (vs := []) (ds := []) E P hD .nil
    have E1 : RepEnv (g.at fun a => av a ∨ a = Dd) er μ'.ec (upd H Dd (.lst [])) ρ σ := sN.env
    have P1 : HpOk (g.at fun a => av a ∨ a = Dd) er (upd H Dd (.lst [])) μ' := sN.hp
    have rt1 : RepD (g.at fun a => av a ∨ a = Dd) er μ'.ec (upd H Dd (.lst [])) (Ow ρ σ) v d := by
      obtain ⟨u, s1, r1⟩ := E1.val it _ e2
      have r1 := dat_rep r1 rfl
      cases r1 with
      | lab q => exact q
    have P2 := avC_hp (ds := []) E1 P1
    have rt2 := RepD.cv (g := g.at fun a => av a ∨ a = Dd) (av' := avC (fun a => av a ∨ a = Dd) ρ σ []) (free_C (ds := [])) rt1
    have nDd : ∀ b, chW v d b → b ≠ Dd := fun b z q => (late b z).2.2.2 (by rw [q]; exact hD)
    have lkD : lk ≠ Dd := fun z => by rw [z, hD] at hlk; cases hlk
    have avD : (avC (fun a => av a ∨ a = Dd) ρ σ []) Dd := .inl (.inr rfl)
    let it_ : Nat → D := fun i => match i with
      | 0 => d
      | 1 => moreD s ka d
      | _ => moreD s ka (moreD s ka d)
    have itn : ∀ i, nodeD (it_ i) = nodeD d := fun i => match i with
      | 0 => rfl
      | 1 => moreD_node o1
      | i + 2 => (moreD_node o2).trans (moreD_node o1)
    let S : Nat → Hp → Prop := fun i H' => i ≤ 2 ∧ ∃ er', HpOk (g.at (avC (fun a => av a ∨ a = Dd) ρ σ [])) er' H' μ' ∧ Ext (g.at av) (fun b => b = Dd ∨ chW v d b) er μ'.ec (upd H Dd (.lst [])) er' μ'.ec H' ∧ RepD (g.at (avC (fun a => av a ∨ a = Dd) ρ σ [])) er' μ'.ec H' NoOw v (it_ i) ∧ H' Dd = some (.lst (List.replicate i (.bl true)))
    have lkAt : ∀ {er' : Er} {H' : Hp}, Ext (g.at av) (fun b => b = Dd ∨ chW v d b) er μ'.ec (upd H Dd (.lst [])) er' μ'.ec H' → H' lk = some (.lst [v, v]) := fun {er' H'} x => by
      exact x.same lk _ (by rw [upd_ne lkD]; exact hlk) (fun z => z.elim lkD fun z => (late lk z).2.2.1 rfl) lsa lsb rfl
    refine ⟨fun i t H' => t = 2 - i ∧ S i H', ⟨2, rfl, Nat.zero_le _, er, P2, Ext.refl .., rt2, upd_same⟩, ?_⟩
    rintro i t H' ⟨rfl, hi, er', P', x', r', hDd⟩
    have hlk' := lkAt x'
    by_cases hlt : i < 2
    · right
      have hxi : ([v, v] : List V)[i]? = some v := by
        match i, hlt with
        | 0, _ => rfl
        | 1, _ => rfl
      refine ⟨⟨_, v, .of hlk', hxi⟩, S (i + 1), fun H2 q => ⟨2 - (i + 1), by omega, rfl, q⟩, fun xv H2 y => ?_⟩
      obtain ⟨rfl, y⟩ := y
      have ex := y _ (.of hlk')
      rw [hxi] at ex
      cases ex
      intro s1 H1 C1 cl1 fp1
      refine .of (pg_name (C.blk).ndup ((C.blk).at (nlB_ok h1).1) (by rw [(C.blk).hsc]; exact .inl (nlB_ok h1).2) (.inr (by rw [(C.blk).hsc]; exact (nlB_ok h1).2))) ?_
      refine ⟨by simp [wipe], fun s2 H2' C2 cl2 fp2 => .of pts_nil ?_⟩
      simp only [if_true]
      intro s3 H3' C3 cl3 fp3
      have hlen : i1 < σ.length := by rw [← E.len]; exact hi1
      refine .of (pe_callS (X := X.blk s3 H3' scope (compEnvC scope cl3 C3 X.env) fp3) Fk (C.blk (s := s3) (H1 := H3') (scope := scope) (Cc := C3) (cl := cl3) (fp := fp3)).room ((C.blk).gl (gnB_ok hx0).1) hm kpp hb (E := WE fun _ _ _ _ => False) (passAt LamX.takes0)
        (pa_cons (pe_var (i := i1) ((C.blk).at b1) (by rw [(C.blk).hsc]; exact b2) b3 b4) (pa_cons (pe_var (i := it) ((C.blk).at c1) (by rw [(C.blk).hsc]; exact c2) c3 c4) pa_nil (he2 _)) (he _)) (gnB_ok hx0).2 (he _) (hpl _)) ?_
      refine ⟨v, ?_, v, ?_, ?_⟩
      · simp [wipe, hlen]
      · simp [wipe, hne, st]
      · have oi : ObW s ka (it_ i) := by
          match i, hlt with
          | 0, _ => exact o1
          | 1, _ => exact o2
        have mi : moreD s ka (it_ i) = it_ (i + 1) := by
          match i, hlt with
          | 0, _ => rfl
          | 1, _ => rfl
        refine ⟨avC (fun a => av a ∨ a = Dd) ρ σ [], er', μ', v, it_ i, rfl, P', r', oi, fun e5 kvs e6 a o u ev z => ?_, fun H3 er3 P3 x3 r3 => ?_⟩
        · have ch : chW v d a := ⟨ev, by rw [← itn i, e6]; rfl⟩
          have q := x'.nfz a o u z
          rw [upd_ne (nDd a ch)] at q
          exact (late a ch).2.1 o u q
        · have chi : ∀ b, chW v (it_ i) b → chW v d b := fun b q => ⟨q.1, by rw [← itn i]; exact q.2⟩
          have hD3 : H3 Dd = some (.lst (List.replicate i (.bl true))) := x3.same Dd _ hDd (fun z => nDd Dd (chi Dd z) rfl) sN.sa sN.sb rfl
          refine ⟨_, hD3, by rw [sizeLine_eq]; simp; omega, by omega, er3, hp_upd P3 hD3 sN.sa sN.sb (fun _ z => nomatch z) (fun _ z => nomatch z), ?_, ?_, ?_⟩
          · have x3' : Ext (g.at av) (fun b => b = Dd ∨ chW v d b) er' μ'.ec H2 er3 μ'.ec H3 := (ext_av (g := g) (av2 := av) x3).mono fun b z => .inl (.inr (chi b z))
            exact (x'.trans x3' fun b z => .inl z).trans (ext_mut (.inl rfl)) fun b z => .inl z
          · rw [← mi]
            have r4 := RepD.cv (g := g.at (avC (fun a => av a ∨ a = Dd) ρ σ [])) (av' := avC (fun a => av a ∨ a = Dd) ρ σ []) (ow' := fun b => b = Dd) (fun a _ f => ⟨f.1, fun z => f.1 (by rw [z]; exact avD), f.2.2⟩) r3
            exact RepD.ext (ext_mut (ow := fun b => b = Dd) rfl) (fun a z => .inl ⟨List.replicate i (.bl true), by have z : a = Dd := z; rw [z]; exact hD3⟩) P3.sal (fun a z => (z : False).elim) r4
          · rw [upd_same, List.replicate_succ']
    · left
      have e2' : i = 2 := by omega
      subst e2'
      refine ⟨⟨_, .of hlk', by simp⟩, Dd, [true, true], rfl, .of hDd, true, rfl, ?_⟩
      refine iteF (h σ H' er' ⟨?_, plain_env E, ?_, fun a ⟨j, o, _⟩ => (plain_no o).elim⟩)
      · have y : Ext (g.at av) (fun b => b = Dd ∨ chW v d b) er μ'.ec H er' μ'.ec H' := (ext_new (g := g.at av) _ hD).trans x' fun b z => .inl z
        refine m.x.trans y fun b z => .inr ?_
        rcases z with z | z
        · cases q : H0 b with
          | none => rfl
          | some o => exact absurd hD (by rw [← z]; exact m.x.dom b (by rw [q]; exact fun z => nomatch z))
        · exact (late b z).1
      · exact HpOk.cv (g := g.at (avC (fun a => av a ∨ a = Dd) ρ σ [])) (av' := av) P' (fun a z => P'.avs (.inl (.inl z)))
end
end GW

set_option maxHeartbeats 2000000
/-! defs by their bodies, blocks by one label, loops by an invariant -/
namespace GW
open PySem PySem.Spec PyProof.Rows L2
theorem fn_byD {P : Program} {w : World} {g : Gd} {base : Heap} {k : Nat} {x qual : Str} {params : Arguments} {body : List Stmt} {scope : Scope} {dvs : List V} {kws : List (Str × V)} {f : Addr} {fd : FuncData} {N ps bl : List Str} {fb : Ro → Mu → Rs Fl}
    (F : FunD g.K x qual params body scope dvs kws f fd) (S : FnScope N ps scope) (hbl : ∀ x ∈ bl, g.mg x = none) (hb : ∀ X : Cx, X.prog = P → X.w = w → X.base = base → Cxt g bl k N scope X → CxS X → OkSs g X body fb) :
    FnOk P w g.K g.mg base (L2.CX P w) (k + 1) f fd ps (spF g ps.length fun ds μ => (fb (rho0 N.length ds) μ).fin) := by
  obtain ⟨oc, od, dV, kV, doc, pm, an, cdv, ct, osl, rfl, lk, hcd, hD, hK⟩ := F.ex
  exact fn_by lk hcd S fun A outer s H E hr => hb _ rfl rfl rfl ⟨rfl, rfl, rfl, rfl, rfl, hr, S.nd, hbl⟩ ⟨fun _ => rfl, passes_of rfl⟩
section
variable {g : Gd} {X : Cx} {W : WX} {σ : St} {er : Er} {H : Hp} {ρ : Ro} {μ : Mu} {c : Nat} {av : Addr → Prop}
theorem OkAS.lab1 {i : Nat} {sts : List Stmt} {f r : Nat → Ro → Mu → Rs Fl} (O : OkAS g X sts f) (hx : ∀ k ρ μ x fs ρ' μ', r k ρ μ ≠ .ex x fs ρ' μ')
    (hr : ∀ k ρ μ o ρ' μ', r k ρ μ = .ok o ρ' μ' → labOk i ρ = true ∧ ∀ v, ∃ ρx, f k (GW.lab1 i v ρ) μ = .ok o ρx μ' ∧ Fgt ρx ρ') : OkAS g X sts r := by
  intro av W σ0 er0 H0 ρ0 μ0 σ er H ρ μ Z tk m h
  cases e : r μ0.ec ρ μ with
  | no => rw [e] at h; exact h.elim
  | ex x fs ρ' μ' => exact absurd e (hx _ _ _ _ _ _ _)
  | ok o ρ' μ' =>
    obtain ⟨l1, k⟩ := hr _ _ _ _ _ _ e
    obtain ⟨v, E1⟩ := env_lab m.env l1
    obtain ⟨ρx, e2, hf⟩ := k v
    have ho : ∀ a, Ow (GW.lab1 i v ρ) σ a ↔ Ow ρ σ a := fun a => lab1_Ow
    refine O av W σ0 er0 H0 ρ0 μ0 σ er H _ μ Z tk ⟨m.x, E1, m.hp, fun a z => m.ow a ((ho a).mp z)⟩ ?_
    rw [e] at h
    rw [e2]
    cases o with
    | nx => exact fun σ' H' er' m' => h σ' H' er' (hf.nxs m')
    | rt d => exact fun u σ' H' er' m' rd => h u σ' H' er' (hf.nxs m') (RepD.less (fun a ⟨k, o, q⟩ => ⟨k, hf.ow o, q⟩) rd)
end
/-- a loop by an invariant of what is left -/
theorem forR_inv {t : D → Ro → Option Ro} {fb : Ro → Mu → Rs Fl} {I : Nat → Ro → Mu → Prop} : ∀ (ds : List D) (j : Nat) (ρ : Ro) (μ : Mu), I j ρ μ →
    (∀ i d ρ μ, ds[i]? = some d → I (j + i) ρ μ → ∃ ρ1 ρ2 μ2, t d ρ = some ρ1 ∧ fb ρ1 μ = .ok .nx ρ2 μ2 ∧ I (j + i + 1) ρ2 μ2) → ∃ ρ' μ', forR t fb ds ρ μ = .ok .nx ρ' μ' ∧ I (j + ds.length) ρ' μ'
  | [], j, ρ, μ, h, _ => ⟨ρ, μ, by simp [forR], by simpa using h⟩
  | d :: ds, j, ρ, μ, h, hs => by
    obtain ⟨ρ1, ρ2, μ2, e1, e2, h2⟩ := hs 0 d ρ μ rfl (by simpa using h)
    obtain ⟨ρ', μ', e3, h3⟩ := forR_inv ds (j + 1) ρ2 μ2 (by simpa using h2) fun i d' ρ μ e q => by
      have := hs (i + 1) d' ρ μ (by simpa using e) (by rw [show j + (i + 1) = j + 1 + i by omega]; exact q)
      rw [show j + (i + 1) + 1 = j + 1 + i + 1 by omega] at this
      exact this
    refine ⟨ρ', μ', ?_, by rw [List.length_cons, show j + (ds.length + 1) = j + 1 + ds.length by omega]; exact h3⟩
    rw [forR]
    simp only [e1, e2, Rs.bind_ok]
    exact e3
end GW

set_option maxHeartbeats 2000000
/-! the first statement of a law: the draws' state -/
namespace GW
open PySem PySem.Spec PyProof.Rows L2
def spS (K : PySem.W.Frag) : Sp := fun vs H Q _ => ∃ (a : Addr) (ns : List Int), vs = [.ref a] ∧ ns.length ≤ 63 ∧ SqL K H a (ns.map V.int) ∧ ∀ p q, H p = none → H q = none → q ≠ p → Q (.ref q) (upd (upd H p (.lst (ns.map V.int))) q (.lst [.ref p, .int 0, .int 0, .int 29]))
theorem start_fn {P : Program} {w : World} {K : PySem.W.Frag} {mg : Str → Option Value} {base : Heap} {x qual sx : Str} {params : Arguments} {body : List Stmt} {scope : Scope} {f : Addr} {fd : FuncData} {p p2 cp q1 q2 q3 lp pos : Pos} {j1 j2 j3 : Nat}
    (F : FunD K x qual params body scope [] [] f fd) (eb : body = [.Return (some (.List [.Call (.Name "list" p) [.Name sx p2] [] cp, .Constant (.int 0) j1 q1, .Constant (.int 0) j2 q2, .Constant (.int 29) j3 q3] lp)) pos]) (S : FnScope [sx] [sx] scope) (hl : mg "list" = none) (hg : gnB scope "list" = true) (hn : nmB [sx] scope 0 sx = true) :
    FnOk P w K mg base (L2.CX P w) 1 f fd [sx] (spS K) := by
  subst eb
  refine F.ok S (fun vs H Q E ⟨a, ns, e, _⟩ => by rw [e]; rfl) fun cdv A outer s H vs Q E hr ⟨a, ns, e, hz, hs, q⟩ => ?_
  subst e
  obtain ⟨n1, n2, n3, n4⟩ := nmB_ok hn
  refine ⟨_, pss_one (ps_ret (pe_lst (pa_cons (pe_callTy call_list_of (gnB_ok hg).1 hl (by kernel_rfl) (pa_cons (pe_var (i := 0) n1 n2 n3 n4) pa_nil) (by decide +kernel) (by decide +kernel)) (pa_cons pe_int (pa_cons pe_int (pa_cons pe_int pa_nil)))))), ?_⟩
  refine ⟨_, rfl, a, _, rfl, .inl hs, fun p hp => ⟨by rw [sizeLine_eq]; simp, fun l hl' => ?_⟩⟩
  have ne : l ≠ p := fun z => by rw [z, upd_same] at hl'; cases hl'
  exact q p l hp (by rw [upd_ne ne] at hl'; exact hl') ne
def ro0 (n : Nat) : Ro := .un :: .val .sta :: List.replicate (n - 2) .un
def mu0 (ns : List Int) : Mu := ⟨ns, 0, 0, 29, 0⟩
theorem ro0_at {n i : Nat} {sv : SV} (h : (ro0 n)[i]? = some sv) : (i = 1 ∧ sv = .val .sta) ∨ sv = .un := by
  unfold ro0 at h
  match i with
  | 0 => cases h; exact .inr rfl
  | 1 => cases h; exact .inl ⟨rfl, rfl⟩
  | i + 2 =>
    simp only [List.getElem?_cons_succ, List.getElem?_replicate] at h
    split at h
    · cases h; exact .inr rfl
    · cases h
theorem law_main {X : Cx} {W : WX} {K : PySem.W.Frag} {mg : Str → Option Value} {bl N : List Str} {n : Nat} {sc : Scope} {rest : List Stmt} {fr : Ro → Mu → Rs Fl} {x sx zx : Str} {px p p2 cp pos : Pos} {fs : Addr} {fds : FuncData} {ps : List Str} {a : Addr} {ns : List Int} {H : Hp} {Q : VK}
    (C : ∀ g : Gd, g.K = K → g.mg = mg → Cxt g bl n N sc X) (S : CxS X) (tk : Takes X W) (Fk : FnOk X.prog X.w K mg X.base (L2.CX X.prog X.w) 1 fs fds ps (spS K)) (hr : 1 ≤ n) (hmx : mg x = some (.ref fs)) (kp : PySem.W.keepIn K (.ref fs) = true) (hb : L2.Binds K fds ps []) (hg : gnB sc x = true)
    (h0 : nmB N sc 0 zx = true) (h1 : nwB N sc 1 sx = true) (O : ∀ g : Gd, g.K = K → g.mg = mg → OkSs g X rest fr) (ev : ∃ ρ' μ', fr (ro0 N.length) (mu0 ns) = .ok (.rt (.bl true)) ρ' μ') (hl : ns.length ≤ 63) (hbits : ∀ i ∈ ns, i.natAbs < 2 ^ 1048576)
    (hs : SqL K H a (ns.map V.int)) (q : ∀ H', Q (.bl true) H')
    (he : starEach [.Name zx p2] X.env = (false, eval (.Name zx p2) X.env) :: starEach [] X.env := by rfl) (hpl : (backTo cp (starEach [] X.env)).any (·.1) = false := by rfl) (hsw : swapsWith (.Call (.Name x p) [.Name zx p2] [] cp) (some (.Name sx px)) pos.line X.env = pure false := by rfl) :
    RunSs X (.Assign [.Name sx px] (.Call (.Name x p) [.Name zx p2] [] cp) pos :: rest) { nx := fun _ H' => Q .non H', rt := Q } (L2.start N [.ref a]) H := by
  let g0 : Gd := { K := K, mg := mg, isFn := fun _ => false, sa := 0, sb := 0, T := [], lam := fun _ => none, av := fun _ => False }
  have C0 := C g0 rfl rfl
  have hK : X.K = K := C0.hK
  have hm : X.mg = mg := C0.hm
  subst hK hm
  obtain ⟨n1, n2, n3, n4⟩ := nmB_ok h0
  have N2 : 2 ≤ N.length := (List.getElem?_eq_some_iff.mp (nwB_ok h1).1).1
  refine .of (pss_cons (ps_set C0.ndup (C0.at (nwB_ok h1).1) (C0.loc (nwB_ok h1).2) (pe_callS Fk (C0.room.mono hr) (C0.gl (gnB_ok hg).1) hmx kp hb (E := WE W) (passAt tk) (pa_cons (pe_var (i := 0) (C0.at n1) (by rw [C0.hsc]; exact n2) n3 n4) pa_nil he) (gnB_ok hg).2 he hpl) hsw (.inl (S.fn _))) pssR) ?_
  refine ⟨.ref a, start_get rfl, a, ns, rfl, hl, hs, fun p q' hp hq ne => ?_⟩
  let g : Gd := { K := X.K, mg := X.mg, isFn := fun _ => false, sa := q', sb := p, T := [], lam := fun _ => none, av := fun _ => False }
  have hlen : (L2.start N [V.ref a]).length = N.length := by
    unfold L2.start
    simp only [List.length_append, List.length_map, List.length_replicate, List.length_cons, List.length_nil]
    omega
  have s1 : ((L2.start N [V.ref a]).set 1 (some (V.ref q')))[1]? = some (some (V.ref q')) := set_get (by rw [hlen]; omega)
  have E : RepEnv (g.at fun _ => False) (fun _ _ => False) 0 (upd (upd H p (.lst (ns.map V.int))) q' (.lst [.ref p, .int 0, .int 0, .int 29])) (ro0 N.length) ((L2.start N [V.ref a]).set 1 (some (V.ref q'))) := by
    refine ⟨by rw [List.length_set, hlen]; unfold ro0; simp only [List.length_cons, List.length_replicate]; omega, fun i d e => ?_, fun i e xs z => ?_, fun i e xs z => ?_, fun i j b z => ?_⟩
    · rcases ro0_at e with ⟨rfl, z⟩ | z
      · cases z
        exact ⟨_, s1, .sta (g := g.at fun _ => False)⟩
      · cases z
    · rcases ro0_at z with ⟨_, z⟩ | z <;> cases z
    · rcases ro0_at z with ⟨_, z⟩ | z <;> cases z
    · rcases z with ⟨_, _, z⟩ | ⟨_, _, z⟩ <;> rcases ro0_at z with ⟨_, z⟩ | z <;> cases z
  have P : HpOk (g.at fun _ => False) (fun _ _ => False) (upd (upd H p (.lst (ns.map V.int))) q' (.lst [.ref p, .int 0, .int 0, .int 29])) (mu0 ns) := {
    sa := upd_same
    sb := by rw [upd_ne (Ne.symm ne)]; exact upd_same
    ne := ne
    mu := ⟨hl, hbits, Int.le_refl _, by show (0 : Int) < 2 ^ 1048576; exact Int.pow_pos (by decide), Int.le_refl _, by show (0 : Int) < 2 ^ 40; decide, by show (0 : Int) ≤ 29; decide, by show (29 : Int) < 2 ^ 31; decide⟩
    er := fun _ z => z.elim
    tabs := fun p hp => by cases hp
    av := fun _ z => z.elim
    nav := ⟨fun z => z, fun z => z⟩ }
  obtain ⟨ρ', μ', e⟩ := ev
  refine O g rfl rfl (fun _ => False) W _ _ _ _ _ _ tk E P ?_
  rw [e]
  intro v σ' H' er' m r
  cases r
  exact q H'
end GW

set_option maxHeartbeats 2000000
/-! what a law's text and the head's facts give -/
namespace GW
open PySem PySem.Spec PyProof.Rows L2
structure FunA (P : Program) (w : World) (base : Heap) (g : Gd) (k : Nat) (x : Str) (np : Nat) (F : List D → Mu → Rf) : Prop where
  ex : ∃ (f : Addr) (fd : FuncData) (ps : List Str), FnOk P w g.K g.mg base (L2.CX P w) k f fd ps (spF g np F) ∧ g.mg x = some (.ref f) ∧ PySem.W.keepIn g.K (.ref f) = true ∧ L2.Binds g.K fd ps []
theorem FunA.to {g : Gd} {X : Cx} {k np : Nat} {x : Str} {F : List D → Mu → Rf} {P : Program} {w : World} {base : Heap} (h : FunA P w base g k x np F) (h1 : X.prog = P) (h2 : X.w = w) (h3 : X.base = base) (h4 : X.K = g.K) (h5 : X.mg = g.mg) : Fun g X k x np F := by
  obtain ⟨f, fd, ps, a, b, c, d⟩ := h.ex
  exact ⟨f, fd, ps, by rw [h1, h2, h3, h4, h5]; exact a, by rw [h5]; exact b, by rw [h4]; exact c, by rw [h4]; exact d⟩
/-- nothing is promised -/
theorem FunA.no {P : Program} {w : World} {base : Heap} {g : Gd} {k np : Nat} {x qual nm : Str} {params : Arguments} {body : List Stmt} {scope : Scope} {f : Addr} {fd : FuncData} {ps : List Str} {F : List D → Mu → Rf} (D : FunD g.K nm qual params body scope [] [] f fd) (hm : g.mg x = some (.ref f))
    (hb : L2.Binds g.K fd ps []) (hp : ps.length = np) (hF : ∀ ds μ, F ds μ = .no) : FunA P w base g k x np F := ⟨f, fd, ps, by rw [← hp]; exact spF_no hF, hm, D.kp, hb⟩
theorem FunA.by {P : Program} {w : World} {base : Heap} {g : Gd} {k np : Nat} {x qual nm : Str} {params : Arguments} {body : List Stmt} {scope : Scope} {f : Addr} {fd : FuncData} {N ps bl : List Str} {fb : Ro → Mu → Rs Fl} {F : List D → Mu → Rf} (D : FunD g.K nm qual params body scope [] [] f fd) (hm : g.mg x = some (.ref f))
    (hb : L2.Binds g.K fd ps []) (hp : ps.length = np) (S : FnScope N ps scope) (hbl : ∀ x ∈ bl, g.mg x = none) (hB : ∀ X : Cx, X.prog = P → X.w = w → X.base = base → Cxt g bl k N scope X → CxS X → OkSs g X body fb) (hF : F = fun ds μ => (fb (rho0 N.length ds) μ).fin) : FunA P w base g (k + 1) x np F :=
  ⟨f, fd, ps, by rw [← hp, hF]; exact fn_byD D S hbl hB, hm, D.kp, hb⟩
/-- what the head says: the classes of errors -/
structure HdX (g : Gd) (T : Str → Str → Option Bool) (xs : List Str) (ys : List (Str × Bool)) (flds : List (Str × Str)) (zero : List Str) : Prop where
  tab : tabB g.K T xs ys = true
  fld : ∀ q ∈ flds, excB g.K q.1 q.2 = true
  zer : ∀ x ∈ zero, exc0B g.K x = true
theorem HdX.of {g : Gd} {T : Str → Str → Option Bool} {xs : List Str} {ys : List (Str × Bool)} {flds : List (Str × Str)} {zero : List Str} (h : (tabB g.K T xs ys && (flds.all (fun q => excB g.K q.1 q.2) && zero.all (fun x => exc0B g.K x))) = true) : HdX g T xs ys flds zero := by
  obtain ⟨h1, h⟩ := He.ba h
  obtain ⟨h2, h3⟩ := He.ba h
  exact ⟨h1, List.all_eq_true.mp h2, List.all_eq_true.mp h3⟩
section
variable {g : Gd} {X : Cx} {T : Str → Str → Option Bool} {xs : List Str} {ys : List (Str × Bool)} {flds : List (Str × Str)} {zero : List Str}
theorem HdX.kit (h : HdX g T xs ys flds zero) (hx : ∀ x y b, T x y = some b → x ∈ xs) (hm : ∀ x ∈ xs, g.mg x = some (.ref (He.ga g.K x))) {y : Str} (x : Str) (b : Bool) (e : T x y = some b) (C : Addr) (hC : g.mg x = some (.ref C)) : KitC g.K C := by
  have h1 := hx x y b e
  have hC' := (hm x h1).symm.trans hC
  cases hC'
  exact kitcB_ok (He.ba (List.all_eq_true.mp h.tab x h1)).1
theorem HdX.kitx (h : HdX g T xs ys flds zero) (hm : ∀ x ∈ xs, g.mg x = some (.ref (He.ga g.K x))) {x : Str} (h1 : x ∈ xs) (C : Addr) (hC : g.mg x = some (.ref C)) : KitC g.K C := by
  have hC' := (hm x h1).symm.trans hC
  cases hC'
  exact kitcB_ok (He.ba (List.all_eq_true.mp h.tab x h1)).1
theorem HdX.fx (h : HdX g T xs ys flds zero) (hm : ∀ x ∈ xs, g.mg x = some (.ref (He.ga g.K x))) {f : Str} {l : List Str} (hl : ∀ x ∈ l, x ∈ xs ∧ (x, f) ∈ flds) : FldX g f l := fun x hx C hC => by
  obtain ⟨h1, h2⟩ := hl x hx
  refine ⟨h.kitx hm h1 C hC, ?_⟩
  have hC' := (hm x h1).symm.trans hC
  cases hC'
  have q := h.fld _ h2
  exact He.eqO_ok (He.ba (He.ba (He.ba q).2).2).2
theorem HdX.cu (hown : ∀ y : Str × Bool, y ∈ ys → y.2 = true → g.mg y.1 = some (.ref (He.ga g.K y.1))) (hfree : ∀ y : Str × Bool, y ∈ ys → y.2 = false → g.mg y.1 = none ∧ bootBuiltins y.1 = some (.type y.1.toString)) : ∀ y ∈ ys, ∀ u, CU g y.1 u → u = clsV g.K y := fun y hy u cu => by
  unfold clsV
  cases e : y.2 with
  | true =>
    have q := hown y hy e
    rcases cu with ⟨h1, _⟩ | ⟨h1, _⟩
    · rw [q] at h1; cases h1; rfl
    · rw [q] at h1; cases h1
  | false =>
    obtain ⟨q1, q2⟩ := hfree y hy e
    rcases cu with ⟨h1, _⟩ | ⟨_, T, _, h2⟩
    · rw [q1] at h1; cases h1
    · rw [q2] at h2; cases h2; rfl
end
def isGlo (x : Str) : He.Fa → Bool
  | .glo y => y == x
  | _ => false
def isFree (x : Str) : He.Fa → Bool
  | .free y => y == x
  | _ => false
theorem glo_all {fa : List He.Fa} {fn : List He.DefD} {K : PySem.W.Frag} {h : Heap} {mg : Str → Option Value} {xs : List Str} (KX : K.In h) (G : h.Ns mainGlobals mg) (c : He.SaysD fa fn K) (hx : (xs.all fun x => fa.any (isGlo x)) = true) : ∀ x ∈ xs, mg x = some (.ref (He.ga K x)) := fun x h1 => by
  obtain ⟨f, hf, e⟩ := List.any_eq_true.mp (List.all_eq_true.mp hx x h1)
  unfold isGlo at e
  split at e
  · cases eq_of_beq e
    exact He.glo_ok KX G (c.facts hf)
  · cases e
theorem free_all {fa : List He.Fa} {fn : List He.DefD} {K : PySem.W.Frag} {h : Heap} {mg : Str → Option Value} {xs : List Str} (KX : K.In h) (G : h.Ns mainGlobals mg) (c : He.SaysD fa fn K) (hx : (xs.all fun x => fa.any (isFree x)) = true) : ∀ x ∈ xs, mg x = none := fun x h1 => by
  obtain ⟨f, hf, e⟩ := List.any_eq_true.mp (List.all_eq_true.mp hx x h1)
  unfold isFree at e
  split at e
  · cases eq_of_beq e
    exact He.free_ok KX G (c.facts hf)
  · cases e
def tabT (asked : List (Str × Bool)) (tabL : List (Str × List Str)) (x y : Str) : Option Bool := if asked.any (fun q => q.1 == y) then (tabL.lookup x).map (·.contains y) else none
theorem tabT_mem {asked : List (Str × Bool)} {tabL : List (Str × List Str)} {x y : Str} {b : Bool} (h : tabT asked tabL x y = some b) : x ∈ tabL.map (·.1) ∧ ∃ o, (y, o) ∈ asked := by
  unfold tabT at h
  split at h
  · rename_i q
    obtain ⟨p, h1, h2⟩ := List.any_eq_true.mp q
    obtain ⟨l, h3, _⟩ := Option.map_eq_some_iff.mp h
    refine ⟨?_, p.2, by rw [← eq_of_beq h2]; exact h1⟩
    exact List.mem_map.mpr ⟨(x, l), PySem.mem_of_lookup h3, rfl⟩
  · cases h
/-- of the classes that are asked for: own ones have their name, built-in ones are free -/
theorem asked_all {fa : List He.Fa} {fn : List He.DefD} {g : Gd} {h : Heap} {ys : List (Str × Bool)} (KX : g.K.In h) (G : h.Ns mainGlobals g.mg) (c : He.SaysD fa fn g.K) (hx : (ys.all fun y => if y.2 then fa.any (isGlo y.1) else fa.any (isFree y.1) && decide (bootBuiltins y.1 = some (.type y.1.toString))) = true) :
    ∀ y ∈ ys, ∀ u, CU g y.1 u → u = clsV g.K y := HdX.cu (fun y hy e => by
      have q := List.all_eq_true.mp hx y hy
      rw [if_pos e] at q
      exact glo_all (xs := [y.1]) KX G c (by simpa using q) y.1 (by simp)) fun y hy e => by
      have q := List.all_eq_true.mp hx y hy
      rw [if_neg (by rw [e]; exact fun z => nomatch z)] at q
      obtain ⟨q1, q2⟩ := He.ba q
      exact ⟨free_all (xs := [y.1]) KX G c (by simpa using q1) y.1 (by simp), of_decide_eq_true q2⟩
end GW

set_option maxHeartbeats 2000000
/-! the body of the def that spoils a thing, by levels -/
namespace GW
open PySem PySem.Spec PyProof.Rows L2
section
variable {g : Gd} {X : Cx} {W : WX} {D P : Addr → Prop} {C H : Hp} {m n k w lv : Nat} {bl : List Str} {N : List Str} {sc : Scope} {σ σ0 : St} {K : PySem.W.Frag}
theorem SInv.weaken {D' : Addr → Prop} (h : ∀ a, D' a → D a) (I : SInv D P C m H) : SInv D' P C m H :=
  ⟨I.x, I.lst, fun a vs p e => let ⟨ws, h1, h2⟩ := I.dic a vs p e; ⟨ws, h1, h2.imp_left fun z => ⟨z.1, fun q => z.2 (h a q)⟩⟩⟩
theorem SInv.hold {a : Addr} {vs : List (Key × V)} (I : SInv D P C m H) (p : P a) (hc : C a = some (.dK vs)) (hh : H a = some (.dK (putK vs (Sum.inr spoilt : Key) (V.int (-1))))) : SInv (fun b => D b ∨ b = a) P C m H :=
  ⟨I.x, I.lst, fun b us p e => by
    obtain ⟨ws, h1, h2⟩ := I.dic b us p e
    by_cases z : b = a
    · subst z
      rw [hc] at e; cases e
      exact ⟨_, hh, .inr rfl⟩
    · exact ⟨ws, h1, h2.imp_left fun q => ⟨q.1, fun y => y.elim q.2 z⟩⟩⟩
theorem sqT_ty {a : Addr} {vs : List V} (h : SqT K H a vs) : TyX K H (.ref a) (.type "tuple") := by
  rcases h with (h1 | ⟨o, h1⟩) | ⟨o, its, n, h1, h2, h3⟩
  · exact .base (.tup h1)
  · exact .fTuple h1
  · exact .kTuple h1 h2
/-- a test of the thing's type -/
theorem sp_is {tx x : Str} {i : Nat} {T t : String} {v : V} {d : GW.D} {p p2 p3 pos : Pos} {Q : Bool → Hp → Prop} (Cc : Cxt g bl n N sc X) (h : bnB sc bl "isinstance" = true) (Tn : TyNm X x (.ty T) (.type T)) (hT : tyOk T = true) (hn : nmB N sc i tx = true) (hσ : σ[i]? = some (some v))
    (ht : tyName d = some t) (ty : TyX X.K H v (.type t)) {b : Bool} (hb : isT t T = b) (q : Q b H) (he : starEach [.Name tx p3, .Name x p2] X.env = (false, eval (.Name tx p3) X.env) :: starEach [.Name x p2] X.env := by rfl) : RunT X (.Call (.Name "isinstance" p) [.Name tx p3, .Name x p2] [] pos) σ H Q := by
  subst hb
  obtain ⟨n1, n2, n3, n4⟩ := nmB_ok hn
  refine .of (pt_val (pe_callB (call_isi (X := X)) (Cc.gl (bnB_ok h).1) (Cc.non (bnB_ok h).2) (by kernel_rfl) (pa_cons (pe_var (i := i) (Cc.at n1) (by rw [Cc.hsc]; exact n2) n3 n4) (pa_cons (Tn.pe _) pa_nil) he) (by decide +kernel) (by decide +kernel) he) (fun _ => rfl)) ?_
  exact ⟨v, hσ, v, .ty T, .type t, .type T, isT t T, rfl, .ty T, ty, kit_one ht hT, _, rfl, q⟩
theorem sp_iss {tx : Str} {es : List Expr} {Ts : List String} {i x1 : Nat} {t : String} {v : V} {d : GW.D} {p p2 p3 pos : Pos} {Q : Bool → Hp → Prop} (Cc : Cxt g bl n N sc X) (h : bnB sc bl "isinstance" = true) (Tn : TyNms X es Ts) (hl : Ts.length ≤ 64) (hn : nmB N sc i tx = true) (hσ : σ[i]? = some (some v))
    (ht : tyName d = some t) (ty : ∀ q, H q = none → TyX X.K (upd H q (.tup (Ts.map V.ty))) v (.type t)) {b : Bool} (hb : (Ts.any fun T => isT t T) = b) (q : ∀ q, H q = none → Q b (upd H q (.tup (Ts.map V.ty)))) (he : starEach [.Name tx p3, .Tuple es x1 p2] X.env = (false, eval (.Name tx p3) X.env) :: starEach [.Tuple es x1 p2] X.env := by rfl) :
    RunT X (.Call (.Name "isinstance" p) [.Name tx p3, .Tuple es x1 p2] [] pos) σ H Q := by
  subst hb
  obtain ⟨n1, n2, n3, n4⟩ := nmB_ok hn
  obtain ⟨t', h1, h2⟩ := Tn.pa
  refine .of (pt_val (pe_callB (call_isiT (X := X)) (Cc.gl (bnB_ok h).1) (Cc.non (bnB_ok h).2) (by kernel_rfl) (pa_cons (pe_var (i := i) (Cc.at n1) (by rw [Cc.hsc]; exact n2) n3 n4) (pa_cons (pe_tup h1) pa_nil) he) (by decide +kernel) (by decide +kernel) he) (fun _ => rfl)) ?_
  refine ⟨v, hσ, h2 _ _ _ ⟨by rw [List.length_map, sizeLine_eq]; omega, fun q' hq => ?_⟩⟩
  exact ⟨v, q', Ts.map V.ty, .type t, Ts.map Value.type, _, rfl, upd_same, Tn.cls, ty q' hq, Tn.kit ht, _, rfl, q q' hq⟩

/-- what the recursion is, seen from the body -/
structure RecF (X : Cx) (n l : Nat) (x : Str) : Prop where
  ex : ∀ lv, l = lv + 1 → ∃ (k : Nat) (f : Addr) (fd : FuncData) (ps : List Str), FnOk X.prog X.w X.K X.mg X.base (L2.CX X.prog X.w) k f fd ps (spSp X.K (lv + 1)) ∧ k ≤ n ∧ X.mg x = some (.ref f) ∧ PySem.W.keepIn X.K (.ref f) = true ∧ L2.Binds X.K fd ps []
/-- the visit of what stands at a key -/
theorem sp_stepK {i : Nat} {x tx z : Str} {p p1 p2 p3 p4 pos pos' : Pos} {a : Addr} {vs ws : List (Key × V)} {f : Key → Nat} {j : Key} (Cc : Cxt g bl n N sc X) (S : CxS X) (tk : Takes X W) (F : RecF X n (lv + 1) x) (hg : gnB sc x = true) (ht : nmB N sc 0 tx = true) (hz : nmB N sc i z = true) (hzw : nwB N sc i z = true) (h0i : (0 : Nat) ≠ i)
    (he : starEach [.Subscript (.Name tx p2) (.Name z p3) p4] X.env = (false, eval (.Subscript (.Name tx p2) (.Name z p3) p4) X.env) :: starEach [] X.env := by rfl) (hpl : (backTo pos (starEach [] X.env)).any (·.1) = false := by rfl) (hs : swapsWith (.Call (.Name x p) [.Subscript (.Name tx p2) (.Name z p3) p4] [] pos) none pos'.line X.env = pure false := by rfl) (hns : NoSl (.Name z p3) := by intro _ _; rfl)
    (L : PLd P C) (h0 : σ0[0]? = some (some (.ref a))) (hi2 : i < σ0.length) (sb : SameBut i σ0 σ) (I : SInv D P C m H) (hf : ∀ kv ∈ vs, SpD X.K C P lv kv.2 (f kv.1)) (hH : H a = some (.dK ws)) (hat : (ws = vs ∧ j ∈ vs.map (·.1)) ∨ (ws = putK vs (Sum.inr spoilt : Key) (V.int (-1)) ∧ (j = (Sum.inr spoilt : Key) ∨ j ∈ vs.map (·.1))))
    (hw : m + f j ≤ 2 ^ 20) (Z' : Ends) (q : ∀ σ' H', SameBut i σ0 σ' → SInv D P C (m + f j) H' → Z'.nx σ' H') :
    RunG X (.Name z p1) (kV j) σ H fun σ2 H2 => RunSs X [.Expr (.Call (.Name x p) [.Subscript (.Name tx p2) (.Name z p3) p4] [] pos) pos'] Z' σ2 H2 := by
  obtain ⟨k, fa, fd, ps, Fk, hk, hm, kp, hb⟩ := F.ex lv rfl
  obtain ⟨t1, t2, t3, t4⟩ := nmB_ok ht
  obtain ⟨z1, z2, z3, z4⟩ := nmB_ok hz
  have hat' : ∃ u w', valV ws j = some u ∧ w' ≤ f j ∧ SpD X.K C P lv u w' := by
    rcases hat with ⟨rfl, h⟩ | ⟨rfl, h⟩
    · exact sp_at hf (.inl rfl) (.inr h)
    · by_cases e : j = (Sum.inr spoilt : Key)
      · exact ⟨V.int (-1), 0, by rw [valV_put, if_pos e], Nat.zero_le _, .int _⟩
      · exact sp_at hf (.inr rfl) (.inr (h.elim (fun q => absurd q e) id))
  obtain ⟨u, w', hu, hw', hsp⟩ := hat'
  have hcl := Cc.hu
  refine .of (pg_name Cc.ndup (Cc.at (nwB_ok hzw).1) (Cc.loc (nwB_ok hzw).2) (.inl (S.fn z))) ?_
  refine .of (pss_one psR) (.of (ps_expr peR hs) (.of (pe_callS Fk (Cc.room.mono hk) (Cc.gl (gnB_ok hg).1) hm kp hb (E := WE W) (passAt tk) (pa_cons (pe_dget (by omega) (pe_var (i := 0) (Cc.at t1) (by rw [Cc.hsc]; exact t2) t3 t4) (pe_var (i := i) (Cc.at z1) (by rw [Cc.hsc]; exact z2) z3 z4) hns) pa_nil he) (gnB_ok hg).2 he hpl) ?_))
  refine ⟨.ref a, by rw [set_get_ne h0i, sb.2 0 h0i]; exact h0, kV j, set_get (by rw [sb.1]; exact hi2), a, u, rfl, by rw [← hu]; exact DGet.k hH, ?_⟩
  exact ⟨D, P, C, u, w', m, rfl, L, hsp, I, by omega, fun v' H' I' => q _ H' sb.set (I'.mono (by omega))⟩
end
end GW

set_option maxHeartbeats 2000000
/-! the body of the def that spoils a thing -/
namespace GW
open PySem PySem.Spec PyProof.Rows L2
section
variable {g : Gd} {X : Cx} {W : WX} {D P : Addr → Prop} {C H : Hp} {m n k w l : Nat} {bl : List Str} {N : List Str} {sc : Scope} {σ σ0 : St} {K : PySem.W.Frag}
theorem put_key {vs : List (Key × V)} {k j : Key} {v : V} (h : j ∈ (putK vs k v).map (·.1)) : j = k ∨ j ∈ vs.map (·.1) := by
  rw [put_keys] at h
  split at h
  · exact .inr h
  · exact (List.mem_append.mp h).elim .inr fun z => .inl (List.mem_singleton.mp z)
theorem put_sum {vs : List (Key × V)} {k : Key} {v : V} {f : Key → Nat} (h : k ∉ vs.map (·.1) → f k = 0) : ((putK vs k v).map fun kv => f kv.1).sum = (vs.map fun kv => f kv.1).sum := by
  have e1 : ∀ us : List (Key × V), (us.map fun kv => f kv.1) = (us.map (·.1)).map f := fun us => by rw [List.map_map]; rfl
  rw [e1, e1, put_keys]
  split
  · rfl
  · rename_i hn
    have : k ∉ vs.map (·.1) := fun z => hn (by
      obtain ⟨kv, h1, h2⟩ := List.mem_map.mp z
      exact List.any_eq_true.mpr ⟨kv, h1, decide_eq_true h2⟩)
    rw [List.map_append, List.sum_append]
    simp [h this]
/-- the body -/
theorem sp_run {x tx y z : Str} {S1 S2 S3 S4 : Stmt} {a1 a2 a3 a4 a5 a6 a7 a8 a9 a10 a11 a12 a13 a14 a15 a16 b1 b2 b3 b4 b5 b6 b7 b8 b9 b10 c1 c2 c3 c4 c5 c6 c7 c8 c9 c10 c11 c12 c13 c14 c15 c16 c17 c18 c19 c20 c21 d1 d2 d3 : Pos} {i1 i2 j1 j2 : Nat} {v : V} {Q : VK}
    (e1 : S1 = .If (.Call (.Name "isinstance" a1) [.Name tx a2, .Tuple [.Name "list" a3, .Name "tuple" a4] i1 a5] [] a6) [.For (.Name y a7) (.Call (.Name "list" a8) [.Name tx a9] [] a10) [.Expr (.Call (.Name x a11) [.Name y a12] [] a13) a14] [] a15] [] a16)
    (e2 : S2 = .If (.Call (.Name "isinstance" b1) [.Name tx b2, .Name "list" b3] [] b4) [.Expr (.Call (.Attribute (.Name tx b5) "append" b6) [.Constant (.str spoilt) j1 b7] [] b8) b9] [] b10)
    (e3 : S3 = .If (.Call (.Name "isinstance" c1) [.Name tx c2, .Name "dict" c3] [] c4) [.For (.Name z c5) (.Call (.Name "list" c6) [.Name tx c7] [] c8) [.Expr (.Call (.Name x c9) [.Subscript (.Name tx c10) (.Name z c11) c12] [] c13) c14] [] c15, .Assign [.Subscript (.Name tx c16) (.Constant (.str spoilt) j2 c17) c18] (.UnaryOp .USub (.Constant (.int 1) i2 c19) c20) c21] [] d1)
    (e4 : S4 = .Return (some (.Name tx d2)) d3)
    (Cc : Cxt g bl n N sc X) (S : CxS X) (tk : Takes X W) (F : RecF X n l x) (hg : gnB sc x = true) (hi : bnB sc bl "isinstance" = true) (hli : bnB sc bl "list" = true) (htu : bnB sc bl "tuple" = true) (hdi : bnB sc bl "dict" = true) (ht : nmB N sc 0 tx = true) (hy : nmB N sc 1 y = true) (hyw : nwB N sc 1 y = true) (hz : nmB N sc 2 z = true) (hzw : nwB N sc 2 z = true)
    (hline : (b6.endLine == b8.line) = true) (s1 : swapsWith (.Call (.Name x a11) [.Name y a12] [] a13) none a14.line X.env = pure false) (s3 : swapsWith (.Call (.Name x c9) [.Subscript (.Name tx c10) (.Name z c11) c12] [] c13) none c14.line X.env = pure false)
    (s4 : swapsWith (.UnaryOp .USub (.Constant (.int 1) i2 c19) c20) (some (.Subscript (.Name tx c16) (.Constant (.str spoilt) j2 c17) c18)) c21.line X.env = pure false)
    (hD : SpD X.K C P l v w) (L : PLd P C) (I : SInv D P C m H) (hw : m + w ≤ 2 ^ 20) (q : ∀ v' H', SInv D P C (m + w) H' → Q v' H') :
    RunSs X [S1, S2, S3, S4] { nx := fun _ H' => Q .non H', rt := Q } [some v, none, none] H := by
  obtain ⟨t1, t2, t3, t4⟩ := nmB_ok ht
  obtain ⟨y1, y2, y3, y4⟩ := nmB_ok hy
  obtain ⟨z1, z2, z3, z4⟩ := nmB_ok hz
  have hcl := Cc.hu
  have tL : TyNm X "list" (.ty "list") (.type "list") := Cc.tyNm (bnB_ok hli).1 (bnB_ok hli).2 (by kernel_rfl) (by decide) (by decide)
  have tD : TyNm X "dict" (.ty "dict") (.type "dict") := Cc.tyNm (bnB_ok hdi).1 (bnB_ok hdi).2 (by kernel_rfl) (by decide) (by decide)
  have tN : TyNms X [.Name "list" a3, .Name "tuple" a4] ["list", "tuple"] := .c "list" Cc hli (by kernel_rfl) (by decide) (by decide) (by decide +kernel) (.c "tuple" Cc htu (by kernel_rfl) (by decide) (by decide) (by decide +kernel) .nil)
  have pv : ∀ p : Pos, PE X (.Name tx p) (tVar 0) := fun p => pe_var (i := 0) (Cc.at t1) (by rw [Cc.hsc]; exact t2) t3 t4
  let Z : Ends := { nx := fun _ H' => Q .non H', rt := Q }
  show RunSs X [S1, S2, S3, S4] Z [some v, none, none] H
  have fin : ∀ {σ' : St} {H' : Hp}, σ'[0]? = some (some v) → SInv D P C (m + w) H' → RunS X S4 Z σ' H' := fun {σ' H'} h0 I' => by
    rw [e4]
    exact .of (ps_ret (pv d2)) ⟨v, h0, q v _ I'⟩
  have s34 : ∀ {σ' : St} {H' : Hp} {t : String} {d : GW.D}, σ'[0]? = some (some v) → tyName d = some t → TyX X.K H' v (.type t) → isT t "dict" = false → SInv D P C (m + w) H' → RunSs X [S3, S4] Z σ' H' := fun {σ' H' t d} h0 hd ty hf I' => by
    refine .of (pss_cons psR (pss_one psR)) ?_
    rw [e3]
    refine .of (ps_if ptR pssR pss_nil) ?_
    exact sp_is Cc hi tD (by decide +kernel) ht h0 hd ty hf (iteF (fin h0 I')) rfl
  have s234 : ∀ {σ' : St} {H' : Hp} {t : String} {d : GW.D}, σ'[0]? = some (some v) → tyName d = some t → TyX X.K H' v (.type t) → isT t "list" = false → isT t "dict" = false → SInv D P C (m + w) H' → RunSs X [S2, S3, S4] Z σ' H' := fun {σ' H' t d} h0 hd ty hf hf2 I' => by
    refine .of (pss_cons psR pssR) ?_
    rw [e2]
    refine .of (ps_if ptR pssR pss_nil) ?_
    exact sp_is Cc hi tL (by decide +kernel) ht h0 hd ty hf (iteF (s34 h0 hd ty hf2 I')) rfl
  have atom : ∀ {t : String} {d : GW.D}, w = 0 → tyName d = some t → (∀ H', TyX X.K H' v (.type t)) → (["list", "tuple"].any fun T => isT t T) = false → isT t "list" = false → isT t "dict" = false → RunSs X [S1, S2, S3, S4] Z [some v, none, none] H := fun {t d} hw0 hd ty g1 g2 g3 => by
    refine .of (pss_cons psR pssR) ?_
    rw [e1]
    refine .of (ps_if ptR pssR pss_nil) ?_
    exact sp_iss Cc hi tN (by decide) ht rfl hd (fun _ _ => ty _) g1 (fun q' hq => iteF (s234 rfl hd (ty _) g2 g3 (by rw [hw0]; exact I.new hq))) rfl
  -- the loop over a list's or a tuple's copy
  have loop : ∀ {a : Addr} {ys : List V} {w1 lv : Nat} {H1 : Hp} {Z' : Ends}, l = lv + 1 → v = .ref a → (SqL X.K H1 a ys ∨ SqT X.K H1 a ys) → SInv D P C m H1 → SpDs X.K C P lv ys w1 → m + w1 ≤ 2 ^ 20 → (∀ σ' H', σ'[0]? = some (some v) → SInv D P C (m + w1) H' → Z'.nx σ' H') →
      RunS X (.For (.Name y a7) (.Call (.Name "list" a8) [.Name tx a9] [] a10) [.Expr (.Call (.Name x a11) [.Name y a12] [] a13) a14] [] a15) Z' [some v, none, none] H1 := fun {a ys w1 lv H1 Z'} hl hva hsq I1 r hw1 q1 => by
    obtain ⟨k, fa, fd, ps, Fk, hk, hm, kp, hb⟩ := F.ex lv hl
    refine .of (ps_for S.own Cc.calm (pi_list (pe_callTy call_list_of (Cc.gl (bnB_ok hli).1) (Cc.non (bnB_ok hli).2) (by kernel_rfl) (pa_cons (pv a9) pa_nil) (by decide +kernel) (by decide +kernel))) pgR pssR (by intro _; rfl)) ?_
    refine ⟨_, rfl, a, ys, by rw [hva], hsq, fun p hp => ⟨p, rfl, ⟨ys, .of upd_same⟩, ?_⟩⟩
    have cq := I1.none hp
    exact sp_loop (i := 1) (C := upd C p (.lst ys)) (n := lv) (fun σ H m w v sb I r hw Z' q => sp_step Cc S tk Fk hk (gnB_ok hg).1 (gnB_ok hg).2 hm kp hb (nwB_ok hyw).1 (nwB_ok hyw).2 y2 y3 y4 rfl rfl s1 (L.grow cq) (by simp) sb I r hw Z' q)
      upd_same (L.not cq) (SpDs.grow cq r) (I1.add L hp) hw1 fun σ' H' sb I' => q1 σ' H' (by rw [sb.2 0 (by decide)]; rfl) (I'.drop L cq)
  cases hD with
  | non => exact atom (d := .non) rfl rfl (fun _ => .base .non) (by decide +kernel) (by decide +kernel) (by decide +kernel)
  | bl b => exact atom (d := .bl b) rfl rfl (fun _ => .base (.bl b)) (by decide +kernel) (by decide +kernel) (by decide +kernel)
  | int i => exact atom (d := .int i) rfl rfl (fun _ => .base (.int i)) (by decide +kernel) (by decide +kernel) (by decide +kernel)
  | str s => exact atom (d := .str s) rfl rfl (fun _ => .base (.str s)) (by decide +kernel) (by decide +kernel) (by decide +kernel)
  | @tup lv _ a vs h r =>
    refine .of (pss_cons psR pssR) ?_
    rw [e1]
    refine .of (ps_if ptR (pss_one psR) pss_nil) ?_
    refine sp_iss (d := .tup []) Cc hi tN (by decide) ht rfl rfl (fun q' hq => sqT_ty ((I.new hq).sqT L h)) (by decide +kernel) (fun q' hq => iteT ?_) rfl
    have I1 := I.new (o := .tup (["list", "tuple"].map V.ty)) hq
    exact loop rfl rfl (.inr (I1.sqT L h)) I1 r hw fun σ' H' h0 I' => s234 (d := .tup []) h0 rfl (sqT_ty (I'.sqT L h)) (by decide +kernel) (by decide +kernel) I'
  | @lst lv w1 a vs h p hl r =>
    refine .of (pss_cons psR pssR) ?_
    rw [e1]
    refine .of (ps_if ptR (pss_one psR) pss_nil) ?_
    refine sp_iss (d := .lst 0 []) Cc hi tN (by decide) ht rfl rfl (fun q' hq => let ⟨_, _, h2⟩ := (I.new hq).lst _ _ p h; .base (.lst h2)) (by decide +kernel) (fun q' hq => iteT ?_) rfl
    have I1 := I.new (o := .tup (["list", "tuple"].map V.ty)) hq
    obtain ⟨k1, _, hh1⟩ := I1.lst _ _ p h
    refine loop rfl rfl (.inl (.of hh1)) I1 (SpDs.more k1 r) (by omega) fun σ' H' h0 I' => ?_
    obtain ⟨k2, hk2, hh⟩ := I'.lst _ _ p h
    refine .of (pss_cons psR pssR) ?_
    rw [e2]
    refine .of (ps_if ptR (pss_one psR) pss_nil) ?_
    refine sp_is (d := .lst 0 []) Cc hi tL (by decide +kernel) ht h0 rfl (.base (.lst hh)) (by decide +kernel) (iteT ?_) rfl
    refine run_app Cc ht h0 hh (by rw [sizeLine_eq]; simp only [List.length_append, List.length_replicate]; omega) ?_ rfl rfl hline
    exact s34 (d := .lst 0 []) h0 rfl (.base (.lst upd_same)) (by decide +kernel) (I'.app p h hh)
  | @dic lv w1 a vs h p nd hl r =>
    obtain ⟨f, f1, f2, f3⟩ := SpDs.keys nd r
    refine .of (pss_cons psR pssR) ?_
    rw [e1]
    refine .of (ps_if ptR pssR pss_nil) ?_
    refine sp_iss (d := .dic 0 []) Cc hi tN (by decide) ht rfl rfl (fun q' hq => let ⟨_, h2, _⟩ := (I.new hq).dic _ _ p h; .base (.dK h2)) (by decide +kernel) (fun q' hq => iteF ?_) rfl
    have I1 := I.new (o := .tup (["list", "tuple"].map V.ty)) hq
    generalize upd H q' (.tup (["list", "tuple"].map V.ty)) = H1 at I1
    obtain ⟨ws, hh, hws⟩ := I1.dic _ _ p h
    refine .of (pss_cons psR pssR) ?_
    rw [e2]
    refine .of (ps_if ptR pssR pss_nil) ?_
    refine sp_is (d := .dic 0 []) Cc hi tL (by decide +kernel) ht rfl rfl (.base (.dK hh)) (by decide +kernel) (iteF ?_) rfl
    refine .of (pss_cons psR (pss_one psR)) ?_
    rw [e3]
    refine .of (ps_if ptR pssR pss_nil) ?_
    refine sp_is (d := .dic 0 []) Cc hi tD (by decide +kernel) ht rfl rfl (.base (.dK hh)) (by decide +kernel) (iteT ?_) rfl
    refine .of (pss_cons psR (pss_one psR)) ?_
    have sum : (ws.map fun kv => f kv.1).sum = w1 := by
      rcases hws with ⟨rfl, _⟩ | rfl
      · exact f3
      · rw [put_sum (f2 _)]; exact f3
    have core : ∃ D' : Addr → Prop, (∀ b, D b → D' b) ∧ SInv D' P C m H1 ∧ (ws = vs ∨ (ws = putK vs (Sum.inr spoilt : Key) (V.int (-1)) ∧ D' a)) := by
      rcases hws with ⟨e, _⟩ | e
      · exact ⟨D, fun _ z => z, I1, .inl e⟩
      · exact ⟨fun b => D b ∨ b = a, fun _ z => .inl z, I1.hold p h (by rw [hh, e]), .inr ⟨e, .inr rfl⟩⟩
    obtain ⟨D', hDD, I2, hwd⟩ := core
    refine .of (ps_for S.own Cc.calm (pi_list (pe_callTy (call_listD Cc.calm) (Cc.gl (bnB_ok hli).1) (Cc.non (bnB_ok hli).2) (by kernel_rfl) (pa_cons (pv c7) pa_nil) (by decide +kernel) (by decide +kernel))) pgR pssR (by intro _; rfl)) ?_
    refine ⟨_, rfl, a, ws, rfl, .inl hh, fun p0 hp => ⟨p0, rfl, ⟨_, .of upd_same⟩, ?_⟩⟩
    have cq := I2.none hp
    have pne : a ≠ p0 := fun z => by rw [z, hp] at hh; cases hh
    refine sp_loopW (i := 2) (C := upd C p0 (.lst (ws.map fun kv => kV kv.1))) (wts := ws.map fun kv => f kv.1) (fun σ H m j v w ex ew sb I hw Z' q => ?_) upd_same (L.not cq) (by simp) (I2.add L hp) (by rw [sum]; omega) fun σ' H' sb I' => ?_
    · rw [List.getElem?_map] at ex ew
      cases e : ws[j]? with
      | none => rw [e] at ex; cases ex
      | some kv =>
        rw [e] at ex ew
        cases ex; cases ew
        have hmem : kv.1 ∈ ws.map (·.1) := List.mem_map.mpr ⟨kv, List.mem_of_getElem? e, rfl⟩
        obtain ⟨ws2, hh2, hor⟩ := I.dic a vs p (by rw [upd_ne pne]; exact h)
        have hat : (ws2 = vs ∧ kv.1 ∈ vs.map (·.1)) ∨ (ws2 = putK vs (Sum.inr spoilt : Key) (V.int (-1)) ∧ (kv.1 = (Sum.inr spoilt : Key) ∨ kv.1 ∈ vs.map (·.1))) := by
          rcases hwd with e | ⟨e, hd⟩
          · rw [e] at hmem
            exact hor.imp (fun z => ⟨z.1, hmem⟩) fun z => ⟨z, .inr hmem⟩
          · rw [e] at hmem
            rcases hor with z | z
            · exact absurd hd z.2
            · exact .inr ⟨z, put_key hmem⟩
        exact sp_stepK (i := 2) Cc S tk F hg ht hz hzw (by decide) rfl rfl s3 (by intro _ _; rfl) (L.grow cq) rfl (by simp) sb I (fun kv hk => SpD.grow cq (f1 kv hk)) hh2 hat hw Z' q
    · have h0 : σ'[0]? = some (some (V.ref a)) := by rw [sb.2 0 (by decide)]; rfl
      have I3 := (I'.drop L cq).weaken hDD
      rw [sum] at I3
      obtain ⟨ws2, h2, hor⟩ := I3.dic a vs p h
      have hlen : ws2.length ≤ vs.length + 1 := by
        rcases hor with ⟨e, _⟩ | e
        · rw [e]; omega
        · rw [e]; exact length_putK _ _ _
      refine .of (ps_dput (by omega) (pv c16) pe_str (pe_un un_neg pe_int) s4) ?_
      exact ⟨_, rfl, _, h0, a, _, rfl, DPut.k (k := .inr spoilt) h2 (by rw [sizeLine_eq]; omega), fin h0 ((I3.put p h h2).mono (by omega))⟩
end
end GW

set_option maxHeartbeats 2000000
/-! the def that spoils a thing keeps its promise, at every level -/
namespace GW
open PySem PySem.Spec PyProof.Rows L2
theorem spoil_fn {P : Program} {w : World} {g : Gd} {base : Heap} {bl : List Str} {x qual tx y z : Str} {params : Arguments} {body : List Stmt} {scope : Scope} {f : Addr} {fd : FuncData} {a1 a2 a3 a4 a5 a6 a7 a8 a9 a10 a11 a12 a13 a14 a15 a16 b1 b2 b3 b4 b5 b6 b7 b8 b9 b10 c1 c2 c3 c4 c5 c6 c7 c8 c9 c10 c11 c12 c13 c14 c15 c16 c17 c18 c19 c20 c21 d1 d2 d3 : Pos} {i1 i2 j1 j2 : Nat}
    (F : FunD g.K x qual params body scope [] [] f fd) (S0 : FnScope [tx, y, z] [tx] scope) (hbl : ∀ x ∈ bl, g.mg x = none) (hm : g.mg x = some (.ref f)) (hb : L2.Binds g.K fd [tx] [])
    (eb : body = [.If (.Call (.Name "isinstance" a1) [.Name tx a2, .Tuple [.Name "list" a3, .Name "tuple" a4] i1 a5] [] a6) [.For (.Name y a7) (.Call (.Name "list" a8) [.Name tx a9] [] a10) [.Expr (.Call (.Name x a11) [.Name y a12] [] a13) a14] [] a15] [] a16,
      .If (.Call (.Name "isinstance" b1) [.Name tx b2, .Name "list" b3] [] b4) [.Expr (.Call (.Attribute (.Name tx b5) "append" b6) [.Constant (.str spoilt) j1 b7] [] b8) b9] [] b10,
      .If (.Call (.Name "isinstance" c1) [.Name tx c2, .Name "dict" c3] [] c4) [.For (.Name z c5) (.Call (.Name "list" c6) [.Name tx c7] [] c8) [.Expr (.Call (.Name x c9) [.Subscript (.Name tx c10) (.Name z c11) c12] [] c13) c14] [] c15, .Assign [.Subscript (.Name tx c16) (.Constant (.str spoilt) j2 c17) c18] (.UnaryOp .USub (.Constant (.int 1) i2 c19) c20) c21] [] d1,
      .Return (some (.Name tx d2)) d3])
    (hg : gnB scope x = true) (hi : bnB scope bl "isinstance" = true) (hli : bnB scope bl "list" = true) (htu : bnB scope bl "tuple" = true) (hdi : bnB scope bl "dict" = true) (ht : nmB [tx, y, z] scope 0 tx = true) (hy : nmB [tx, y, z] scope 1 y = true) (hyw : nwB [tx, y, z] scope 1 y = true) (hz : nmB [tx, y, z] scope 2 z = true) (hzw : nwB [tx, y, z] scope 2 z = true)
    (hline : (b6.endLine == b8.line) = true) (s1 : ∀ env, swapsWith (.Call (.Name x a11) [.Name y a12] [] a13) none a14.line env = pure false) (s3 : ∀ env, swapsWith (.Call (.Name x c9) [.Subscript (.Name tx c10) (.Name z c11) c12] [] c13) none c14.line env = pure false)
    (s4 : ∀ env, swapsWith (.UnaryOp .USub (.Constant (.int 1) i2 c19) c20) (some (.Subscript (.Name tx c16) (.Constant (.str spoilt) j2 c17) c18)) c21.line env = pure false) :
    ∀ l, FnOk P w g.K g.mg base (L2.CX P w) (l + 1) f fd [tx] (spSp g.K (l + 1)) := by
  subst eb
  intro l
  induction l with
  | zero =>
    refine F.ok S0 (fun vs H Q E h => spSp_len h) fun cdv A outer s H vs Q E hr h => ?_
    obtain ⟨D, P', C', v, wt, m, rfl, L, hD, I, hw, q⟩ := h
    refine ⟨_, pssR, ?_⟩
    have C : Cxt g bl 0 [tx, y, z] scope (cxOf (L2.CX P w) P w g.K g.mg base [tx, y, z] qual scope f cdv A outer s H E) := ⟨rfl, rfl, rfl, rfl, rfl, hr, S0.nd, hbl⟩
    exact sp_run (l := 0) (W := fun cls d _ H => E cls d H) rfl rfl rfl rfl C ⟨fun _ => rfl, passes_of rfl⟩ (takes_of rfl rfl rfl rfl) ⟨fun lv e => absurd e (by omega)⟩ hg hi hli htu hdi ht hy hyw hz hzw hline (s1 _) (s3 _) (s4 _) hD L I hw q
  | succ l ih =>
    refine F.ok S0 (fun vs H Q E h => spSp_len h) fun cdv A outer s H vs Q E hr h => ?_
    obtain ⟨D, P', C', v, wt, m, rfl, L, hD, I, hw, q⟩ := h
    refine ⟨_, pssR, ?_⟩
    have C : Cxt g bl (l + 1) [tx, y, z] scope (cxOf (L2.CX P w) P w g.K g.mg base [tx, y, z] qual scope f cdv A outer s H E) := ⟨rfl, rfl, rfl, rfl, rfl, hr, S0.nd, hbl⟩
    refine sp_run (l := l + 1) (W := fun cls d _ H => E cls d H) rfl rfl rfl rfl C ⟨fun _ => rfl, passes_of rfl⟩ (takes_of rfl rfl rfl rfl) ⟨fun lv e => ?_⟩ hg hi hli htu hdi ht hy hyw hz hzw hline (s1 _) (s3 _) (s4 _) hD L I hw q
    cases e
    exact ⟨l + 1, f, fd, [tx], ih, Nat.le_refl _, hm, F.kp, hb⟩
/-- as the walks ask for it -/
theorem FunSp.of {X : Cx} {k l : Nat} {x tx : Str} {f : Addr} {fd : FuncData} (h : FnOk X.prog X.w X.K X.mg X.base (L2.CX X.prog X.w) k f fd [tx] (spSp X.K l)) (hm : X.mg x = some (.ref f)) (kp : PySem.W.keepIn X.K (.ref f) = true) (hb : L2.Binds X.K fd [tx] []) : FunSp X k x l := ⟨f, fd, [tx], h, hm, kp, hb⟩
end GW

set_option maxHeartbeats 2000000
/-! a list comprehension within an except suite (its form follows the kit's lc_core, with the handled exception pinned in the block) -/
namespace GW
open PySem PySem.Spec PyProof.Rows L2
section
variable {X : Cx} {σ : L2.St} {H : Hp} {s : Shared} {pn : List (Addr × Obj)}
abbrev blkP (X : Cx) (s : Shared) (H : Hp) (scope : Scope) (cenv : Env) (fp : List Addr) : Cx := { X.blk s H scope cenv fp with pn := X.pn }
theorem ok_pn {Y : Cx} (o : Y.Ok) (pn : List (Addr × Obj)) : ({ Y with pn := pn } : Cx).Ok := ⟨o.mod, o.kind, o.glob, o.blt, o.above, o.inj, o.has, o.cab, o.hd, o.frames, o.stk, o.exf, o.bs, o.bsz, o.noex, o.exfs, o.funs, o.frf⟩
theorem inv_pn {Y : Cx} (I : Inv Y [] σ H s) (h : ∀ p ∈ pn, s.heap.get? p.1 = some p.2 ∧ H p.1 = none ∧ p.1 ≠ Y.env.locals ∧ p.1 ∉ Y.fs ∧ ∀ v, p.2.data ≠ .cell v) : Inv { Y with pn := pn } [] σ H s :=
  ⟨ok_pn I.ok pn, I.os, I.bare, I.base, I.loc, I.cell, I.free, I.freeC, fun p hp => h p (by simpa using hp), I.hok, I.len⟩
theorem lc_coreH {pins : List (Addr × Obj)} {s : Shared} {σ : St} {H : Hp} {Q : VK} {elt tg iter : Expr} {ifs : List Expr} {scope : Scope} {own : List (Str × Nat)} {pos pos' : Pos} {wi : TI} {g : TG} {tt : TT} {te : TE} {use : Option (Value → Sem Unit)} {Qf : Value → Shared → Prop}
    (hc : L2H.HotC X) (hN : X.N.Nodup) (I : Inv X pins σ H s) (hi : L2H.PIH X tg iter wi) (ok : BlkOk X.N X.env.scope scope own)
    (hg : ∀ (s : Shared) (H : Hp) (C : Addr) (cl : List (Str × Addr)) (fp : List Addr), PG (blkP X s H scope (compEnvC scope cl C X.env) fp) tg g) (ht : ∀ (s : Shared) (H : Hp) (C : Addr) (cl : List (Str × Addr)) (fp : List Addr), PTs (blkP X s H scope (compEnvC scope cl C X.env) fp) ifs tt)
    (he : ∀ (s : Shared) (H : Hp) (C : Addr) (cl : List (Str × Addr)) (fp : List Addr), PE (blkP X s H scope (compEnvC scope cl C X.env) fp) elt te) (hs : ∀ x, foldedSetIterable iter X.env x = pure x)
    (h : tLc wi g tt te (own.map (·.2)) σ H Q)
    (hRR : ∀ D C s' m H', Inv X pins σ H' s' → Q (.ref D) H' → s'.heap.Ns C m → FpOk X pins H' C → compPost (model X.prog X.w) X.A X.xe use Qf (.ref D) C (.ok .next) s') :
    wpAny (model X.prog X.w) X.A (comprehension (.ListComp elt [⟨tg, iter, ifs, 0⟩] scope pos) scope X.env pos' (newList []) false (eval iter X.env) use) Qf X.xe s := by
  have hfree : ∀ y ∈ scope.names, y.2 = .free → ∃ c, X.env.cells.lookup y.1 = some c := fun y hy e => by
    rcases ok.free y hy e with k | k
    · exact I.ok.has _ (.inl k)
    · exact I.ok.has _ (.inr k)
  refine wpAny_comprehension_free (use := use) rfl hs (closure_ok hfree) ok.kind (fun y hy e => by rw [ok.uniq y hy, e])
    (thn (hi.run pins s σ H _ I h) fun xv s1 hx => thn hx fun itv s2 h2 => ?_)
  obtain ⟨it, fp, tn, J, H2, e, I2, T, st2, f2, q⟩ := h2
  subst e
  refine wpAny_newObj_type (newEnv_comp ?_) (by show 0 ≤ sizeLine; decide)
  generalize hD : s2.heap.objs.size = D
  have hDn : H2 D = none := I2.hok.fresh (Nat.le_of_eq hD)
  obtain ⟨W, ⟨m0, w0⟩, turn⟩ := q D hDn
  -- the new list
  generalize hs3 : ({ s2 with heap := s2.heap.push { cls := .type "list", data := .seq ([] : List Value).toArray } } : Shared) = s3
  have I3 : Inv X pins σ (upd H2 D (.lst [])) s3 := by
    rw [← hs3]
    refine I2.laid (t' := s2.toks) (fun b o e => Heap.get?_push_of_some _ e) (Nat.le_of_eq hD) ⟨Nat.zero_le _, [], 0, .nil, ?_⟩
    rw [← hD]
    exact Heap.get?_push_size _ rfl
  have h3 : s3.heap = s2.heap.push { cls := .type "list", data := .seq ([] : List Value).toArray } := by rw [← hs3]
  have sz : ∀ b ∈ fp, b < s2.heap.objs.size := fun b hb => by
    obtain ⟨o, e, _⟩ := T.obj _ _ st2 b hb
    exact Heap.lt_size e
  have f3 : ∀ b ∈ fp, FpOk X pins (upd H2 D (.lst [])) b ∧ b < s3.heap.objs.size := fun b hb => by
    have hlt := sz b hb
    refine ⟨⟨?_, (f2 b hb).2⟩, by rw [h3, Heap.size_push]; exact Nat.lt_succ_of_lt hlt⟩
    rw [upd_ne (by rw [← hD]; exact Nat.ne_of_lt hlt)]
    exact (f2 b hb).1
  have st3 : tn 0 s3.heap := T.keep _ _ _ st2 fun b _ o e => by rw [h3]; exact Heap.get?_push_of_some _ e
  have I4 := inv_pn (pn := X.pn) (block_start I3 ok hN f3) fun p hp => by
    have z := I3.pin p (List.mem_append_left _ hp)
    have hlt : p.1 < s3.heap.objs.size := Heap.lt_size z.1
    exact ⟨pushCells_keeps _ _ _ _ (Heap.get?_push_of_some _ z.1), z.2.1, fun q => Nat.ne_of_lt hlt q, fun hm => (List.mem_cons.mp (I3.stkSub p.1 hm)).elim z.2.2.1 z.2.2.2.1, z.2.2.2.2⟩
  have pg := hg s3 (upd H2 D (.lst [])) s3.heap.objs.size (cellsFrom (s3.heap.objs.size + 1) scope.names (cloFrom X.env.cells scope.names [])) fp
  have pt := ht s3 (upd H2 D (.lst [])) s3.heap.objs.size (cellsFrom (s3.heap.objs.size + 1) scope.names (cloFrom X.env.cells scope.names [])) fp
  have pe := he s3 (upd H2 D (.lst [])) s3.heap.objs.size (cellsFrom (s3.heap.objs.size + 1) scope.names (cloFrom X.env.cells scope.names [])) fp
  show codeAny _ _ (.compStart (.ListComp elt [⟨tg, iter, ifs, 0⟩] scope pos) 0 (.ref it) (.ref D) (compEnvC scope (cellsFrom (s3.heap.objs.size + 1) scope.names (cloFrom X.env.cells scope.names [])) s3.heap.objs.size X.env)) (compPost (model X.prog X.w) X.A X.xe use Qf (.ref D) s3.heap.objs.size) { s3 with heap := pushCells (s3.heap.push { cls := .type "dict", data := .dict #[] }) scope.names }
  have nfp : ∀ b ∈ fp, (upd H2 D (.lst [])) b = none := fun b hb => (f3 b hb).1.1
  generalize hce : compEnvC scope (cellsFrom (s3.heap.objs.size + 1) scope.names (cloFrom X.env.cells scope.names [])) s3.heap.objs.size X.env = ce at I4 pg pt pe ⊢
  have cL : ce.locals = s3.heap.objs.size := by subst hce; rfl
  generalize hH3 : upd H2 D (.lst []) = H3 at I3 I4 pg pt pe w0 nfp f3
  generalize hs4 : ({ s3 with heap := pushCells (s3.heap.push { cls := .type "dict", data := .dict #[] }) scope.names } : Shared) = s4 at I4 ⊢
  have st4 : tn 0 s4.heap := T.keep _ _ _ st3 fun b _ o e => by rw [← hs4]; exact pushCells_keeps _ _ _ _ (Heap.get?_push_of_some _ e)
  have stat : ∀ {σ' : St} {H' : Hp} {s' : Shared}, Inv (blkP X s3 H3 scope ce fp) [] σ' H' s' → (∀ b ∈ fp, H' b = none) → ∀ b ∈ fp, FpOk (blkP X s3 H3 scope ce fp) [] H' b := fun {σ' H' s'} I' hn b hb =>
    ⟨hn b hb, (I'.ok.exf b hb).1, I'.ok.exfs b hb, .inl hb, fun x c e => (I'.ok.exf b hb).2 x c e, fun p hp => (f3 b hb).1.2.2.2.2.2 p (List.mem_append_left _ (by simpa using hp))⟩
  have hc' : L2H.HotC (blkP X s3 H3 scope ce fp) := hc
  have loop : codeAny (model X.prog X.w) X.A (.compLoop (.ListComp elt [⟨tg, iter, ifs, 0⟩] scope pos) 0 (.ref it) (.ref D) ce) (compPost (model X.prog X.w) X.A X.xe use Qf (.ref D) s3.heap.objs.size) s4 := by
    refine compLoop_any (fun n s' => ∃ i H', Inv (blkP X s3 H3 scope ce fp) [] (wipe σ (own.map (·.2))) H' s' ∧ tn i s'.heap ∧ (∀ b ∈ fp, H' b = none) ∧ W i n H') ?_ m0 ⟨0, H3, I4, st4, nfp, w0⟩
    rintro n s5 ⟨i, H5, I5, st5, n5, w5⟩
    rcases turn i n H5 w5 with ⟨stop, qq⟩ | ⟨go, Nx, hNx, step⟩
    · have td := T.done (blkP X s3 H3 scope ce fp) rfl rfl rfl hc' i [] s5 _ H5 (fun _ _ => False) I5 (stat I5 n5) st5 stop
      refine thnF td fun r s6 ⟨hr, I6⟩ => ?_
      subst hr
      -- back in the def's context
      have I7 : Inv X pins σ H5 s6 := I3.call' (ch := fp) I6.os I6.base I6.hok I6.bare fun b hb => ⟨(f3 b hb).1.2.2.2.1, (f3 b hb).1.2.1, (f3 b hb).1.2.2.2.2.1, (f3 b hb).1.2.2.2.2.2⟩
      have nC : H5 s3.heap.objs.size = none := by
        have z : H5 ce.locals = none := I6.free
        rw [cL] at z
        exact z
      obtain ⟨m, hn, _⟩ := I6.loc
      have hn : s6.heap.Ns ce.locals m := hn
      rw [cL] at hn
      exact hRR D s3.heap.objs.size s6 m H5 I7 qq hn (I3.fpOk (Nat.le_refl _) nC)
    · have ti := T.item (blkP X s3 H3 scope ce fp) rfl rfl rfl hc' i [] s5 _ H5 (fun _ _ => False) I5 (stat I5 n5) st5 go
      refine thnF ti fun r s6 ⟨u, hr, h6⟩ => ?_
      subst hr
      refine thnF h6 fun _ s7 ⟨x, H7, I7, r7, y7, st7, n7⟩ => ?_
      have I7' := I7.pinned (stat I7 n7) (T.obj _ _ st7)
      refine thnF (pg.run _ s7 _ H7 x u _ I7' r7 (step x H7 y7)) fun _ s8 ⟨σ8, H8, I8, hw8, q8⟩ => ?_
      refine thnF (pt.run _ s8 σ8 H8 _ I8 q8) fun b s9 ⟨H9, I9, q9⟩ => ?_
      -- the turn's end
      have fin : ∀ {s' : Shared} {H' : Hp}, Inv (blkP X s3 H3 scope ce fp) ([] ++ pinsAt fp s7.heap) σ8 H' s' → Nx H' → ∃ m, m < n ∧ ∃ i H', Inv (blkP X s3 H3 scope ce fp) [] (wipe σ (own.map (·.2))) H' s' ∧ tn i s'.heap ∧ (∀ b ∈ fp, H' b = none) ∧ W i m H' := fun {s' H'} I' nx => by
        obtain ⟨m', hm, w'⟩ := hNx H' nx
        have pin' : ∀ b ∈ fp, ∀ o, s7.heap.get? b = some o → s'.heap.get? b = some o ∧ H' b = none := fun b hb o e =>
          let z := I'.pin (b, o) (List.mem_append_right _ (List.mem_append_right _ (mem_pinsAt hb e)))
          ⟨z.1, z.2.1⟩
        have hl : (wipe σ (own.map (·.2))).length = σ8.length := by rw [← hw8, wipe_length]
        refine ⟨m', hm, i + 1, H', (I'.unpinned (pins := [])).weak hl (fun j v e => ?_), T.keep _ _ _ st7 fun b hb o e => (pin' b hb o e).1, fun b hb => ?_, w'⟩
        · rw [← hw8] at e
          exact (wipe_some e).1
        · obtain ⟨o, e, _⟩ := T.obj _ _ st7 b hb
          exact (pin' b hb o e).2
      cases b with
      | false =>
        simp only [Bool.false_eq_true, if_false] at q9 ⊢
        exact fin I9 q9
      | true =>
        simp only [if_true] at q9 ⊢
        refine thnF (pe.run _ s9 σ8 H9 _ I9 q9) fun z s10 ⟨yv, H10, I10, r10, acc, hD10, hz10, nx⟩ => ?_
        exact app_ok (X := blkP X s3 H3 scope ce fp) I10 hD10 hz10 r10 fun s11 I11 => fin I11 nx
  exact codeAny_compStart_list loop (T.self X.A 0 _ _ _ st4 loop)
/-- as a value -/
theorem pe_lcH {elt tg iter : Expr} {ifs : List Expr} {scope : Scope} {own : List (Str × Nat)} {pos : Pos} {wi : TI} {g : TG} {tt : TT} {te : TE} (hc : L2H.HotC X) (hN : X.N.Nodup) (hi : L2H.PIH X tg iter wi) (ok : BlkOk X.N X.env.scope scope own)
    (hg : ∀ (s : Shared) (H : Hp) (C : Addr) (cl : List (Str × Addr)) (fp : List Addr), PG (blkP X s H scope (compEnvC scope cl C X.env) fp) tg g) (ht : ∀ (s : Shared) (H : Hp) (C : Addr) (cl : List (Str × Addr)) (fp : List Addr), PTs (blkP X s H scope (compEnvC scope cl C X.env) fp) ifs tt)
    (he : ∀ (s : Shared) (H : Hp) (C : Addr) (cl : List (Str × Addr)) (fp : List Addr), PE (blkP X s H scope (compEnvC scope cl C X.env) fp) elt te) (hs : ∀ x, foldedSetIterable iter X.env x = pure x := by intro _; rfl) :
    PE X (.ListComp elt [⟨tg, iter, ifs, 0⟩] scope pos) (tLc wi g tt te (own.map (·.2))) := by
  refine ⟨fun pins s σ H Q I h => ?_⟩
  rw [eval_ListComp]
  refine lc_coreH hc hN I hi ok hg ht he hs h fun D C s' m H' I' q hn f => ⟨m, hn, fun h'' sb => ?_⟩
  obtain ⟨f0, f1, f2, f3, f4, f5⟩ := f
  exact ⟨.ref D, H', I'.turned (t' := s'.toks) (fun b o hb e => (sb.2 b hb).trans e) f0 f1 f3 f4 f5, rfl, q⟩
end
end GW

set_option maxHeartbeats 2000000
namespace GW
open PySem PySem.Spec PyProof.Rows L2
/-! ### constants of the module, as trees -/
def kDs (f : Value → Option D) : List Value → Option (List D)
  | [] => some []
  | v :: vs => match f v, kDs f vs with
    | some d, some ds => some (d :: ds)
    | _, _ => none
def kD (K : PySem.W.Frag) : Nat → Value → Option D
  | 0, _ => none
  | n + 1, v => match v with
    | .none => some .non
    | .bool b => some (.bl b)
    | .int i _ => some (.int i)
    | .str x _ => some (.str x)
    | .ref a => match K.lookup a with
      | some ⟨.type "tuple", _, .seq its _, _⟩ => if its.size ≤ 1000 then (kDs (kD K n) its.toList).map D.tup else none
      | _ => none
    | _ => none
mutual
def eqT : D → D → Bool
  | .non, .non => true
  | .bl a, .bl b => a == b
  | .int a, .int b => a == b
  | .str a, .str b => a == b
  | .tup xs, .tup ys => eqTs xs ys
  | _, _ => false
def eqTs : List D → List D → Bool
  | [], [] => true
  | x :: xs, y :: ys => eqT x y && eqTs xs ys
  | _, _ => false
end
/-- the module's constant x is the tree d -/
def gcB (K : PySem.W.Frag) (x : Str) (d : D) : Bool := match PySem.W.nsIn K mainGlobals x with
  | some (some u) => (match kD K 6 u with
    | some e => eqT e d
    | none => false)
  | _ => false
end GW

set_option maxHeartbeats 2000000
/-! more names for the printer -/
namespace GW
open PySem PySem.Spec PyProof.Rows L2
section
variable {g : Gd} {X : Cx} {W : WX} {n k : Nat} {bl N : List Str} {sc : Scope}
theorem OkS.rz {x f : Str} {e : Expr} {fe : Ro → Mu → Rs D} {p cp pos : Pos} (C : Cxt g bl n N sc X) (K : ExcV g X x f) (hn : 2 ≤ n) (h : gnB sc x = true) (O : OkE g X e fe)
    (he : starEach [e] X.env = (false, eval e X.env) :: starEach [] X.env := by rfl) (hpl : (backTo cp (starEach [] X.env)).any (·.1) = false := by rfl) : OkS g X (.Raise (some (.Call (.Name x p) [e] [] cp)) none pos) (sRaise x f fe) := OkS.raise C K.k hn (gnB_ok h).1 (gnB_ok h).2 O he hpl
theorem OkS.putB {i : Nat} {x : Str} {e key : Expr} {fv fk : Ro → Mu → Rs D} {pos pos' np : Pos} (C : Cxt g bl n N sc X) (h : nmB N sc i x = true) (Ov : OkE g X e fv) (Ok : OkE g X key fk)
    (hs : swapsWith e (some (.Subscript (.Name x np) key pos')) pos.line X.env = pure false := by rfl) : OkS g X (.Assign [.Subscript (.Name x np) key pos'] e pos) (sPut i fv fk) :=
  let ⟨h1, h2, h3, h4⟩ := nmB_ok h; OkS.put C h1 h2 h3 h4 Ov Ok hs
theorem OkI.en {a : Expr} {f : Ro → Mu → Rs D} {p pos tpos : Pos} {elts : List Expr} {kk : Nat} (C : Cxt g bl n N sc X) (h : bnB sc bl "enumerate" = true) (O : OkE g X a f) (hs : starEach [a] X.env = [(false, eval a X.env)] := by rfl) : OkI g X (.Tuple elts kk tpos) (.Call (.Name "enumerate" p) [a] [] pos) (evEnum f) := OkI.enum C (bnB_ok h).1 (bnB_ok h).2 O hs
theorem OkE.ac {i : Nat} {x : Str} {Lf : Nat → List D → List D → Mu → Rf} {e : Expr} {es : List Expr} {fa : Ro → Mu → Rs (List D)} {p pos : Pos} (C : Cxt g bl n N sc X) (HL : ∀ m, LamB X.prog X.w X.K X.mg X.base k g m (Lf m)) (hk : k ≤ n) (h : nmB N sc i x = true) (Oa : OkA g X (e :: es) fa)
    (he : starEach (e :: es) X.env = (false, eval e X.env) :: starEach es X.env := by rfl) (hpl : (backTo pos (starEach es X.env)).any (·.1) = false := by rfl) : OkE g X (.Call (.Name x p) (e :: es) [] pos) (evAct i Lf fa) :=
  let ⟨h1, h2, h3, h4⟩ := nmB_ok h; OkE.act C HL hk h1 h2 h3 h4 Oa he hpl
theorem OkE.ac0 {i : Nat} {x : Str} {Lf : Nat → List D → List D → Mu → Rf} {p pos : Pos} (C : Cxt g bl n N sc X) (HL : ∀ m, LamB X.prog X.w X.K X.mg X.base k g m (Lf m)) (hk : k ≤ n) (h : nmB N sc i x = true) : OkE g X (.Call (.Name x p) [] [] pos) (evAct0 i Lf) :=
  let ⟨h1, h2, h3, h4⟩ := nmB_ok h; OkE.act0 C HL hk h1 h2 h3 h4
end
/-! ### constants of the module, as trees -/
mutual
theorem eqT_ok : ∀ {a b : D}, eqT a b = true → a = b
  | .non, b, h => by cases b <;> first | rfl | cases h
  | .bl x, b, h => by cases b <;> first | cases h | skip
                      rw [eq_of_beq (a := x) h]
  | .int x, b, h => by cases b <;> first | cases h | skip
                       rw [eq_of_beq (a := x) h]
  | .str x, b, h => by cases b <;> first | cases h | skip
                       rw [eq_of_beq (a := x) h]
  | .tup xs, b, h => by cases b <;> first | cases h | skip
                        rw [eqTs_ok (a := xs) h]
  | .lst _ _, b, h => by cases b <;> cases h
  | .dic _ _, b, h => by cases b <;> cases h
  | .clo _ _, b, h => by cases b <;> cases h
  | .sta, b, h => by cases b <;> cases h
  | .any _, b, h => by cases b <;> cases h
  | .lab _ _, b, h => by cases b <;> cases h
  | .exc _ _, b, h => by cases b <;> cases h
theorem eqTs_ok : ∀ {a b : List D}, eqTs a b = true → a = b
  | [], b, h => by cases b <;> first | rfl | cases h
  | x :: xs, b, h => by
    cases b with
    | nil => cases h
    | cons y ys =>
      have h : (eqT x y && eqTs xs ys) = true := h
      rw [Bool.and_eq_true] at h
      rw [eqT_ok h.1, eqTs_ok h.2]
end
theorem kDs_ok {K : PySem.W.Frag} {f : Value → Option D} (hf : ∀ u d, f u = some d → ∃ v, RelV v u ∧ ∀ (g : Gd) (er : Er) (c : Nat) (H : Hp) (ow : Addr → Prop), g.K = K → RepD g er c H ow v d) :
    ∀ (us : List Value) (ds : List D), kDs f us = some ds → ∃ vs, Vals vs us ∧ ∀ (g : Gd) (er : Er) (c : Nat) (H : Hp) (ow : Addr → Prop), g.K = K → RepDs g er c H ow vs ds
  | [], ds, h => by cases h; exact ⟨[], .nil, fun _ _ _ _ _ _ => .nil⟩
  | u :: us, ds, h => by
    unfold kDs at h
    cases e1 : f u with
    | none => rw [e1] at h; cases h
    | some d =>
      cases e2 : kDs f us with
      | none => rw [e1, e2] at h; cases h
      | some ds' =>
        rw [e1, e2] at h
        cases h
        obtain ⟨v, r1, q1⟩ := hf u d e1
        obtain ⟨vs, r2, q2⟩ := kDs_ok hf us ds' e2
        exact ⟨v :: vs, .cons r1 r2, fun g er c H ow hk => .cons (q1 g er c H ow hk) (q2 g er c H ow hk)⟩
theorem kD_ok {K : PySem.W.Frag} : ∀ (n : Nat) (u : Value) (d : D), kD K n u = some d → ∃ v, RelV v u ∧ ∀ (g : Gd) (er : Er) (c : Nat) (H : Hp) (ow : Addr → Prop), g.K = K → RepD g er c H ow v d
  | 0, u, d, h => by cases h
  | n + 1, u, d, h => by
    unfold kD at h
    split at h
    · cases h; exact ⟨.non, rfl, fun _ _ _ _ _ _ => .non⟩
    · cases h; exact ⟨.bl _, rfl, fun _ _ _ _ _ _ => .bl _⟩
    · cases h; exact ⟨.int _, ⟨_, rfl⟩, fun _ _ _ _ _ _ => .int _⟩
    · cases h; exact ⟨.str _, ⟨_, rfl⟩, fun _ _ _ _ _ _ => .str _⟩
    · split at h
      · rename_i a _ dd its m sl hl
        split at h
        · rename_i hs
          obtain ⟨ds, e, rfl⟩ := Option.map_eq_some_iff.mp h
          obtain ⟨vs, r, q⟩ := kDs_ok (kD_ok n) _ _ e
          refine ⟨.ref a, rfl, fun g er c H ow hk => .tup ?_ (q g er c H ow hk)⟩
          subst hk
          exact .inr ⟨_, its, m, hl, rfl, rfl, by rw [sizeLine_eq]; omega, r⟩
        · cases h
      · cases h
    · cases h
def Gc (g : Gd) (x : Str) (d : D) : Prop := ∃ u v, g.mg x = some u ∧ RelV v u ∧ ∀ (g' : Gd) (er : Er) (c : Nat) (H : Hp) (ow : Addr → Prop), g'.K = g.K → RepD g' er c H ow v d
theorem gcB_ok {g : Gd} {h : Heap} {x : Str} {d : D} (KX : g.K.In h) (G : h.Ns mainGlobals g.mg) (c : gcB g.K x d = true) : Gc g x d := by
  unfold gcB at c
  split at c
  · rename_i u e1
    split at c
    · rename_i e e2
      cases eqT_ok c
      obtain ⟨v, r, hr⟩ := kD_ok 6 u _ e2
      exact ⟨u, v, PySem.W.mg_of KX G e1, r, hr⟩
    · cases c
  · cases c
theorem OkE.gc {g : Gd} {X : Cx} {n : Nat} {bl N : List Str} {sc : Scope} {x : Str} {d : D} {pos : Pos} (C : Cxt g bl n N sc X) (h : gnB sc x = true) (hm : Gc g x d) : OkE g X (.Name x pos) (evK d) := by
  obtain ⟨u, v, e, r, hr⟩ := hm
  intro av W σ er H ρ μ Q tk E P h'
  exact .of (pe_glob (C.gl (gnB_ok h).1) (by rw [C.hm]; exact e) r (gnB_ok h).2) (den_d h' E P (hr _ _ _ _ _ rfl))
end GW

set_option maxHeartbeats 2000000
/-! defs called with keywords alone -/
namespace GW
open PySem PySem.Spec PyProof.Rows L2
def RunK (X : Cx) (ks : List Keyword) (σ : St) (H : Hp) (Q : List V → Hp → Prop) : Prop := ∀ (pos : Pos) (pins : List (Addr × Obj)) (s : Shared), Inv X pins σ H s → wpAny (model X.prog X.w) X.A (evalAll ((backToKw pos (keywordEach ks X.env)).map (·.2))) (AP X pins σ Q) X.xe s
theorem pkR {X : Cx} {ks : List Keyword} : PK X ks (RunK X ks) := ⟨fun pos pins s σ H Q I h => h pos pins s I⟩
theorem RunK.of {X : Cx} {ks : List Keyword} {t : TA} {σ : St} {H : Hp} {Q : List V → Hp → Prop} (h : PK X ks t) (q : t σ H Q) : RunK X ks σ H Q := fun pos pins s I => h.run pos pins s σ H Q I q
def OkK (g : Gd) (X : Cx) (es : List Keyword) (f : Ro → Mu → Rs (List D)) : Prop := ∀ (av : Addr → Prop) (W : WX) (σ : St) (er : Er) (H : Hp) (ρ : Ro) (μ : Mu) (Q : List V → Hp → Prop), Takes X W → RepEnv (g.at av) er μ.ec H ρ σ → HpOk (g.at av) er H μ → DenA (g.at av) W σ er H ρ μ (f ρ μ) Q → RunK X es σ H Q
def permD (p : List Nat) (ds : List D) : List D := p.map fun i => ds.getD i .non
def permV (p : List Nat) (vs : List V) : List V := p.map fun i => vs.getD i .non
def permU (p : List Nat) (us : List Value) : List Value := p.map fun i => us.getD i .none
def BindsK (K : PySem.W.Frag) (fd : FuncData) (ps ks : List Str) (p : List Nat) : Prop := ∀ (s : Shared) (us : List Value), K.In s.heap → us.length = ks.length → BindsTo s fd ⟨[], ks.zip us⟩ (ps.zip (permU p us))
structure FunKA (P : Program) (w : World) (base : Heap) (g : Gd) (k : Nat) (x : Str) (np : Nat) (ks : List Str) (p : List Nat) (F : List D → Mu → Rf) : Prop where
  ex : ∃ (f : Addr) (fd : FuncData) (ps : List Str), FnOk P w g.K g.mg base (L2.CX P w) k f fd ps (spF g np F) ∧ g.mg x = some (.ref f) ∧ PySem.W.keepIn g.K (.ref f) = true ∧ BindsK g.K fd ps ks p
structure FunK (g : Gd) (X : Cx) (k : Nat) (x : Str) (np : Nat) (ks : List Str) (p : List Nat) (F : List D → Mu → Rf) : Prop where
  ex : ∃ (f : Addr) (fd : FuncData) (ps : List Str), FnOk X.prog X.w X.K X.mg X.base (L2.CX X.prog X.w) k f fd ps (spF g np F) ∧ X.mg x = some (.ref f) ∧ PySem.W.keepIn X.K (.ref f) = true ∧ BindsK X.K fd ps ks p
theorem FunKA.to {g : Gd} {X : Cx} {k np : Nat} {x : Str} {ks : List Str} {p : List Nat} {F : List D → Mu → Rf} {P : Program} {w : World} {base : Heap} (h : FunKA P w base g k x np ks p F) (h1 : X.prog = P) (h2 : X.w = w) (h3 : X.base = base) (h4 : X.K = g.K) (h5 : X.mg = g.mg) : FunK g X k x np ks p F := by
  obtain ⟨f, fd, ps, a, b, c, d⟩ := h.ex
  exact ⟨f, fd, ps, by rw [h1, h2, h3, h4, h5]; exact a, by rw [h5]; exact b, by rw [h4]; exact c, by rw [h4]; exact d⟩
theorem FunKA.no {P : Program} {w : World} {base : Heap} {g : Gd} {k np : Nat} {x qual nm : Str} {params : Arguments} {body : List Stmt} {scope : Scope} {f : Addr} {fd : FuncData} {ps ks : List Str} {p : List Nat} {F : List D → Mu → Rf} (D : FunD g.K nm qual params body scope [] [] f fd) (hm : g.mg x = some (.ref f))
    (hb : BindsK g.K fd ps ks p) (hp : ps.length = np) (hF : ∀ ds μ, F ds μ = .no) : FunKA P w base g k x np ks p F := ⟨f, fd, ps, by rw [← hp]; exact spF_no hF, hm, D.kp, hb⟩
theorem FunKA.by {P : Program} {w : World} {base : Heap} {g : Gd} {k np : Nat} {x qual nm : Str} {params : Arguments} {body : List Stmt} {scope : Scope} {f : Addr} {fd : FuncData} {N ps bl ks : List Str} {p : List Nat} {fb : Ro → Mu → Rs Fl} {F : List D → Mu → Rf} (D : FunD g.K nm qual params body scope [] [] f fd) (hm : g.mg x = some (.ref f))
    (hb : BindsK g.K fd ps ks p) (hp : ps.length = np) (S : FnScope N ps scope) (hbl : ∀ x ∈ bl, g.mg x = none) (hB : ∀ X : Cx, X.prog = P → X.w = w → X.base = base → Cxt g bl k N scope X → CxS X → OkSs g X body fb) (hF : F = fun ds μ => (fb (rho0 N.length ds) μ).fin) : FunKA P w base g (k + 1) x np ks p F :=
  ⟨f, fd, ps, by rw [← hp, hF]; exact fn_byD D S hbl hB, hm, D.kp, hb⟩
/-- the binding, off the def's head -/
theorem bindsK {K : PySem.W.Frag} {x qual : Str} {params : Arguments} {body : List Stmt} {scope : Scope} {kws : List (Str × V)} {f : Addr} {fd : FuncData} {ps ks : List Str} {p : List Nat} (F : FunD K x qual params body scope [] kws f fd)
    (h : ∀ (kV doc pm : Value) (an : Option Addr) (cdv ct : Value) (us : List Value), us.length = ks.length → bindArgs (PySem.W.fnOf x qual params body scope .none kV doc pm an cdv ct) ⟨[], ks.zip us⟩ = pure (ps.zip (permU p us))) : BindsK K fd ps ks p := by
  obtain ⟨oc, od, dV, kV, doc, pm, an, cdv, ct, osl, rfl, lk, hcd, hD, hK⟩ := F.ex
  intro s us _ hl
  rcases hD with ⟨_, rfl⟩ | ⟨e, _⟩
  · exact .of_eq (h kV doc pm an cdv ct us hl)
  · exact absurd rfl e
section
variable {g : Gd} {X : Cx} {W : WX} {σ : St} {er : Er} {H : Hp} {ρ : Ro} {μ : Mu} {c : Nat} {av : Addr → Prop} {bl : List Str} {n : Nat} {N : List Str} {sc : Scope}
theorem OkK.nil : OkK g X [] (fun ρ μ => .ok [] ρ μ) := fun av W σ er H ρ μ Q tk E P h => .of pk_nil (h [] H er (.refl E P) .nil)
theorem OkK.cons {nm : Option Str} {kp : Pos} {e : Expr} {es : List Keyword} {f : Ro → Mu → Rs D} {r : Ro → Mu → Rs (List D)} (O : OkE g X e f) (R : OkK g X es r) : OkK g X (⟨nm, e, kp⟩ :: es) (aCons f r) := by
  intro av W σ er H ρ μ Q tk E P h
  refine .of (pk_cons peR pkR) (O av W σ er H ρ μ (fun x H1 => RunK X es σ H1 fun xs H2 => Q (x :: xs) H2) tk E P (DenG.e (h.toG.bind fun d ρ1 μ1 H1 er1 _ n1 h1 v hv => ?_)))
  refine R av W σ er1 H1 ρ1 μ1 _ tk n1.env n1.hp (DenG.a (h1.bind fun ds ρ2 μ2 H2 er2 _ n2 h2 vs hvs => ?_))
  exact h2.ok n2.env n2.hp (v :: vs) (.cons (hv.nx n2 n1.env n1.hp) hvs)
theorem RepOs.at {vs : List V} {ds : List D} (r : RepOs g er c H ρ σ vs ds) : ∀ i, RepO g er c H ρ σ (vs.getD i .non) (ds.getD i .non) := by
  induction r with
  | nil => exact fun i => .d .non
  | cons h r ih => exact fun i => match i with
    | 0 => h
    | i + 1 => ih i
theorem RepOs.perm {vs : List V} {ds : List D} (r : RepOs g er c H ρ σ vs ds) : ∀ p : List Nat, RepOs g er c H ρ σ (permV p vs) (permD p ds)
  | [] => .nil
  | i :: p => .cons (r.at i) (RepOs.perm r p)
theorem vals_at {vs : List V} {us : List Value} (r : Vals vs us) : ∀ i, RelV (vs.getD i .non) (us.getD i .none) := by
  induction r with
  | nil => exact fun i => rfl
  | cons h r ih => exact fun i => match i with
    | 0 => h
    | i + 1 => ih i
theorem vals_perm {vs : List V} {us : List Value} (r : Vals vs us) : ∀ p : List Nat, Vals (permV p vs) (permU p us)
  | [] => .nil
  | i :: p => .cons (vals_at r i) (vals_perm r p)
def evCallK (np : Nat) (F : List D → Mu → Rf) (p : List Nat) (fa : Ro → Mu → Rs (List D)) : Ro → Mu → Rs D := fun ρ μ => (fa ρ μ).bind fun ds ρ1 μ1 => if ds.length = p.length ∧ p.length = np then callF F (permD p ds) ρ1 μ1 else .no
theorem OkE.callKw {np : Nat} {x : Str} {F : List D → Mu → Rf} {kws : List Keyword} {ks : List Str} {p : List Nat} {fa : Ro → Mu → Rs (List D)} {xp cp : Pos} (C : Cxt g bl n N sc X) (Fx : FunK g X n x np ks p F) (h : gnB sc x = true) (hkl : ks.length = p.length) (Oa : OkK g X kws fa)
    (hall : (backToKw cp (keywordEach kws X.env)).all (·.1.isSome) = true := by rfl) (hks : (backToKw cp (keywordEach kws X.env)).filterMap (·.1) = ks := by rfl)
    (hpl : ((backTo cp (starEach [] X.env)).any (·.1) || (backToKw cp (keywordEach kws X.env)).any (·.1.isNone)) = false := by rfl) : OkE g X (.Call (.Name x xp) [] kws cp) (evCallK np F p fa) := by
  intro av W σ er H ρ μ Z tk E P h' pins s I
  obtain ⟨f, fd, ps, Fk, hm, kp, hb⟩ := Fx.ex
  refine wpAny_Call_Name_kw (ld_glob I (C.gl (gnB_ok h).1) hm ?_ (gnB_ok h).2)
  refine PySem.W.callWith_KW0 (h₀ := X.base) I.ok.mod.kin kp hall ?_ hpl
  refine thn ((pkR (X := X) (ks := kws)).run cp pins s σ H (fun vs H1 => ∃ ds ρ1 μ1 er1, RepEnv (g.at av) er1 μ1.ec H1 ρ1 σ ∧ HpOk (g.at av) er1 H1 μ1 ∧ RepOs (g.at av) er1 μ1.ec H1 ρ1 σ vs ds ∧ DenG (g.at av) W σ er1 H1 ρ1 μ1 (if ds.length = p.length ∧ p.length = np then callF F (permD p ds) ρ1 μ1 else .no) (KE (g.at av) σ Z)) I
    (Oa av W σ er H ρ μ _ tk E P (DenG.a (h'.toG.bind fun ds ρ1 μ1 H1 er1 _ n1 h1 vs hv => ⟨ds, ρ1, μ1, er1, n1.env, n1.hp, hv, h1⟩)))) fun us s1 ⟨vs, H1, I1, rv, ds, ρ1, μ1, er1, E1, P1, r1, h1⟩ => ⟨I1.kIn, ?_⟩
  rw [hks]
  split at h1
  · rename_i hl
    have hul : us.length = ks.length := by rw [← rv.length, hkl, ← hl.1, r1.length]
    have sp : spF g np F (permV p vs) H1 Z (WE W σ) := spF_of E1 P1 (RepOs.perm r1 p) (by unfold permD; rw [List.length_map]; exact hl.2) h1
    refine wpAny_call (codeAny_mono (Fk.run X.A X.stack s1 H1 ⟨[], ks.zip us⟩ (permU p us) (permV p vs) Z (WE W σ) C.room I1.env0 (hb s1 us I1.kIn hul) (vals_perm rv p) sp) fun r s' hq => ?_)
    cases r with
    | error e => exact passAt tk σ pins H1 s1 e s' I1 hq
    | ok fl =>
      cases fl with
      | ret u => exact I1.after hq
      | next => exact False.elim hq
      | brk => exact False.elim hq
      | cont => exact False.elim hq
  · exact h1.elim
end
end GW

set_option maxHeartbeats 2000000
/-! chained comparisons -/
namespace GW
open PySem PySem.Spec PyProof.Rows L2
section
variable {g : Gd} {X : Cx} {W : WX} {σ : St} {er : Er} {H : Hp} {ρ : Ro} {μ : Mu} {c : Nat} {av : Addr → Prop} {bl : List Str} {n : Nat} {N : List Str} {sc : Scope}
theorem FunK.blk {k np : Nat} {x : Str} {ks : List Str} {p : List Nat} {F : List D → Mu → Rf} {s : Shared} {H : Hp} {scope : Scope} {ce : Env} {fp : List Addr} (h : FunK g X k x np ks p F) : FunK g (X.blk s H scope ce fp) k x np ks p F := ⟨h.ex⟩
def chK2 (op' : CmpOp) (y z : D) : Ro → Mu → Rs D := fun ρ μ => match rsv ρ y, rsv ρ z with
  | some b, some c => (match opCmp op' b c with
    | some r => .ok (.bl r) ρ μ
    | none => .no)
  | _, _ => .no
def chK1 (op op' : CmpOp) (fc : Ro → Mu → Rs D) (x y : D) : Ro → Mu → Rs D := fun ρ μ => match rsv ρ x, rsv ρ y with
  | some a, some b => (match opCmp op a b with
    | some true => (fc ρ μ).bind fun z ρ3 μ3 => chK2 op' y z ρ3 μ3
    | some false => .ok (.bl false) ρ μ
    | none => .no)
  | _, _ => .no
def evChain (op op' : CmpOp) (fa fb fc : Ro → Mu → Rs D) : Ro → Mu → Rs D := fun ρ μ => (fa ρ μ).bind fun x ρ1 μ1 => (fb ρ1 μ1).bind fun y ρ2 μ2 => chK1 op op' fc x y ρ2 μ2
theorem OkE.chain {op op' : CmpOp} {a b e : Expr} {fa fb fc : Ro → Mu → Rs D} {pos : Pos} (C : Cxt g bl n N sc X) (Oa : OkE g X a fa) (Ob : OkE g X b fb) (Oc : OkE g X e fc) (hm : lastMarks [op, op'] [b, e] = false := by with_unfolding_all rfl) : OkE g X (.Compare a [op, op'] [b, e] pos) (evChain op op' fa fb fc) := by
  intro av W σ er H ρ μ Q tk E P h
  refine .of (pe_chain (r := RunO X (compareOp op)) (r' := RunO X (compareOp op')) opR opR peR peR peR hm) ?_
  refine run_two Oa Ob tk E P h fun x y ρ2 μ2 v u H2 er2 E2 P2 hx hy h2 => ?_
  unfold chK1 at h2
  split at h2
  · rename_i a b e1 e2
    split at h2
    · rename_i e3
      refine cmp_ok (g := g.at av) C.hK C.hu (rsv_ok E2 hx e1) (rsv_ok E2 hy e2) e3 ⟨true, rfl, iteT ?_⟩
      refine Oc av W σ er2 H2 ρ2 μ2 _ tk E2 P2 (den_then h2 fun z ρ3 μ3 w H3 er3 _ n3 hz h3 => ?_)
      unfold chK2 at h3
      split at h3
      · rename_i b' c' f1 f2
        split at h3
        · rename_i r f3
          exact cmp_ok (g := g.at av) C.hK C.hu (rsv_ok n3.env (hy.nx n3 E2 P2) f1) (rsv_ok n3.env hz f2) f3 (den_d h3 n3.env n3.hp (.bl _))
        · exact h3.elim
      · exact h3.elim
    · rename_i e3
      exact cmp_ok (g := g.at av) C.hK C.hu (rsv_ok E2 hx e1) (rsv_ok E2 hy e2) e3 ⟨false, rfl, iteF (den_d h2 E2 P2 (.bl _))⟩
    · exact h2.elim
  · exact h2.elim
theorem evChain_bl {op op' : CmpOp} {fa fb fc : Ro → Mu → Rs D} {ρ ρ1 : Ro} {μ μ1 : Mu} {d : D} (e : evChain op op' fa fb fc ρ μ = .ok d ρ1 μ1) : ∃ b, d = .bl b := by
  unfold evChain at e
  cases e1 : fa ρ μ with
  | no => rw [e1] at e; cases e
  | ex f fs ρ' μ' => rw [e1] at e; cases e
  | ok x ρa μa =>
    rw [e1] at e
    simp only [Rs.bind_ok] at e
    cases e2 : fb ρa μa with
    | no => rw [e2] at e; cases e
    | ex f fs ρ' μ' => rw [e2] at e; cases e
    | ok y ρb μb =>
      rw [e2] at e
      simp only [Rs.bind_ok] at e
      unfold chK1 at e
      split at e
      · split at e
        · cases e3 : fc ρb μb with
          | no => rw [e3] at e; cases e
          | ex f fs ρ' μ' => rw [e3] at e; cases e
          | ok z ρc μc =>
            rw [e3] at e
            simp only [Rs.bind_ok] at e
            unfold chK2 at e
            split at e
            · split at e
              · cases e; exact ⟨_, rfl⟩
              · cases e
            · cases e
        · cases e; exact ⟨_, rfl⟩
        · cases e
      · cases e
/-- as a test -/
theorem OkT.chain {op op' : CmpOp} {a b e : Expr} {fa fb fc : Ro → Mu → Rs D} {pos : Pos} (C : Cxt g bl n N sc X) (Oa : OkE g X a fa) (Ob : OkE g X b fb) (Oc : OkE g X e fc) (hm : lastMarks [op, op'] [b, e] = false := by with_unfolding_all rfl) : OkT g X (.Compare a [op, op'] [b, e] pos) (toT (evChain op op' fa fb fc)) := by
  intro av W σ er H ρ μ Q tk E P h
  refine .of (pt_chain (r := RunO X (compareOp op)) (r' := RunO X (compareOp op')) opR opR peR peR peR hm) ?_
  have h' : Den (g.at av) W σ er H ρ μ (evChain op op' fa fb fc ρ μ) (fun z H3 => ∃ k, z = .bl k ∧ Q k H3) := denT_then h fun d ρ1 μ1 v H1 er1 e nx hv h1 => by
    obtain ⟨b, rfl⟩ := evChain_bl e
    cases hv with
    | d hv => cases hv; exact ⟨b, rfl, h1 H1 er1 (.refl nx.env nx.hp)⟩
  refine run_two Oa Ob tk E P h' fun x y ρ2 μ2 v u H2 er2 E2 P2 hx hy h2 => ?_
  unfold chK1 at h2
  split at h2
  · rename_i a b e1 e2
    split at h2
    · rename_i e3
      refine cmp_ok (g := g.at av) C.hK C.hu (rsv_ok E2 hx e1) (rsv_ok E2 hy e2) e3 ⟨true, rfl, iteT ?_⟩
      refine Oc av W σ er2 H2 ρ2 μ2 _ tk E2 P2 (den_then h2 fun z ρ3 μ3 w H3 er3 _ n3 hz h3 => ?_)
      unfold chK2 at h3
      split at h3
      · rename_i b' c' f1 f2
        split at h3
        · rename_i r f3
          exact cmp_ok (g := g.at av) C.hK C.hu (rsv_ok n3.env (hy.nx n3 E2 P2) f1) (rsv_ok n3.env hz f2) f3 (den_d h3 n3.env n3.hp (.bl _))
        · exact h3.elim
      · exact h3.elim
    · rename_i e3
      exact cmp_ok (g := g.at av) C.hK C.hu (rsv_ok E2 hx e1) (rsv_ok E2 hy e2) e3 ⟨false, rfl, iteF (den_d h2 E2 P2 (.bl _))⟩
    · exact h2.elim
  · exact h2.elim
end
end GW

set_option maxHeartbeats 2000000
/-! within an except suite: isinstance of the error at hand, defs called with it -/
namespace GW
open PySem PySem.Spec PyProof.Rows L2
/-! ### what has only grown -/
structure Gr (H H' : Hp) : Prop where
  old : ∀ a o, H a = some o → H' a = some o
  nfz : ∀ a o u, H' a = some (.frz o u) → H a = some (.frz o u)
theorem Gr.refl (H : Hp) : Gr H H := ⟨fun _ _ h => h, fun _ _ _ h => h⟩
theorem Gr.trans {H H1 H2 : Hp} (a : Gr H H1) (b : Gr H1 H2) : Gr H H2 := ⟨fun x o h => b.old x o (a.old x o h), fun x o u h => a.nfz x o u (b.nfz x o u h)⟩
theorem Gr.put {H H1 : Hp} {q : Addr} {o : HO} (a : Gr H H1) (hq : H q = none) (ho : ∀ o' u, o ≠ .frz o' u) : Gr H (upd H1 q o) where
  old := fun x o' h => by rw [upd_ne (ne_of_none h hq)]; exact a.old x o' h
  nfz := fun x o' u h => by
    by_cases e : x = q
    · rw [e, upd_same] at h; cases h; exact absurd rfl (ho _ _)
    · rw [upd_ne e] at h; exact a.nfz x o' u h
theorem Gr.none {H H1 : Hp} (a : Gr H H1) {q : Addr} (h : H1 q = Option.none) : H q = Option.none := by
  cases e : H q with
  | none => rfl
  | some o => rw [a.old q o e] at h; cases h
section
variable {g : Gd} {X : Cx} {W : WX} {σ : St} {er : Er} {H H2 : Hp} {ρ : Ro} {μ : Mu}
theorem nx_gr (E : RepEnv g er μ.ec H ρ σ) (P : HpOk g er H μ) (x : Gr H H2) : Nx g σ er H ρ μ er H2 ρ μ := by
  have dm : ∀ a, H a ≠ none → H2 a ≠ none := fun a h => by
    cases e : H a with
    | none => exact absurd e h
    | some o => rw [x.old a o e]; exact fun z => nomatch z
  have ex : ∀ (ow : Addr → Prop) (c : Nat), Ext g ow er c H er c H2 := fun ow c => ⟨fun a o h _ _ _ _ => x.old a o h, dm, fun _ _ => rfl, Nat.le_refl _, fun _ _ _ h1 h2 => absurd (Nat.lt_of_lt_of_le h1 h2) (Nat.lt_irrefl _), x.nfz⟩
  have dom : ∀ a, H a ≠ none → H2 a ≠ none := fun a h => (ex (fun _ => False) 0).dom a h
  exact ⟨ex _ _, E.sm P.sal (ex _ _) fun a o' h _ => x.old a o' h, ⟨x.old _ _ P.sa, x.old _ _ P.sb, P.ne, P.mu, fun a h => dom a (P.er a h), P.tabs.ext fun a o' h => x.old a o' h, fun a h => dom a (P.av a h), P.nav⟩, fun a h => .inl h⟩
end
/-! ### isinstance of the error at hand -/
/-- the error that is handled: of the class at C, its dict at dx -/
structure ErrP (C dx : Addr) (p : Addr × Obj) : Prop where
  cls : p.2.cls = .ref C
  dict : p.2.dict = some dx
  fld : ∃ vs, p.2.data = .fields vs
section
variable {X : Cx} {σ : St} {H : Hp} {p : Addr × Obj} {C dx : Addr}
def rIsP (K : PySem.W.Frag) (a C dx : Addr) : List V → Hp → VK → Prop := fun xs H Q => ∃ (cv : V) (u : Value) (b : Bool) (fs : List (Str × V)), xs = [.ref a, cv] ∧ ClsV cv u ∧ H dx = some (.xd fs) ∧ PySem.W.kitOne K (.ref C) u = some b ∧ Q (.bl b) H
theorem call_isP (hp : p ∈ X.pn) (e : ErrP C dx p) (Kc : KitC X.K C) : CallR X (.builtin "isinstance") (rIsP X.K p.1 C dx) := by
  intro pins s σ H xs us Q I r h
  obtain ⟨cv, u, b, fs, rfl, k, hd, ek, q⟩ := h
  obtain ⟨u1, u2, rfl, r1, r2⟩ := vals2 r
  have e2 := k.eq r2
  subst e2
  cases (show u1 = Value.ref p.1 from r1)
  have P1 := I.pin p (List.mem_append_left _ hp)
  have hy : ObjOk X.prog X.w H s.heap dx (.xd fs) := I.hok dx _ hd
  obtain ⟨mA, hns, hr⟩ := hy
  obtain ⟨o, ho, hl⟩ := lookIn_ns hns
  obtain ⟨vs, hf⟩ := e.fld
  have J : PySem.W.InstAt s.heap p.1 p.2 C (some o) := ⟨P1.1, e.cls, by unfold PySem.W.notCls; rw [hf] <;> rfl, by rw [e.dict]; exact ho⟩
  exact PySem.W.kia_one (PySem.W.kitx_exc Kc.hcl Kc.hga Kc.hgt Kc.hsub Kc.ha Kc.hn Kc.htk Kc.hm) I.kIn J ek (fun z => nomatch z) fun tk => ⟨.bl b, H, I.tok tk, rfl, q⟩
/-- a row of isinstance of the name x -/
inductive IsEs (X : Cx) (C : Addr) (x : Str) : List Expr → List Bool → Prop
  | nil : IsEs X C x [] []
  | cons {y : Str} {cv : V} {u : Value} {b : Bool} {p1 p2 p3 pos : Pos} {es : List Expr} {bs : List Bool} (Tm : TyNm X y cv u) (hk : PySem.W.kitOne X.K (.ref C) u = some b) (r : IsEs X C x es bs) : IsEs X C x (.Call (.Name "isinstance" p1) [.Name x p2, .Name y p3] [] pos :: es) (b :: bs)
theorem IsEs.pa {x : Str} {es : List Expr} {bs : List Bool} {i : Nat} (hp : p ∈ X.pn) (e : ErrP C dx p) (Kc : KitC X.K C) (hg : Gl X "isinstance") (hm : X.mg "isinstance" = none) (hi : X.N[i]? = some x) (hv : Vis X.env.scope x) (h1 : (x == ("__debug__" : Str)) = false) (h2 : (x == ("__classdict__" : Str)) = false) (h : IsEs X C x es bs) :
    ∃ t : TA, PA X es t ∧ ∀ σ H fs Q, σ[i]? = some (some (.ref p.1)) → H dx = some (.xd fs) → Q (bs.map V.bl) H → t σ H Q := by
  induction h with
  | nil => exact ⟨_, pa_nil, fun σ H fs Q _ _ q => q⟩
  | cons Tm hk r ih =>
    obtain ⟨t, q1, q2⟩ := ih
    refine ⟨_, pa_cons (pe_callB (call_isP hp e Kc) hg hm (by kernel_rfl) (pa_cons (pe_var (i := i) hi hv h1 h2) (pa_cons (Tm.pe _) pa_nil) rfl) (by decide +kernel) (by decide +kernel) rfl) q1 rfl, fun σ H fs Q hs hd q => ?_⟩
    exact ⟨_, hs, ⟨_, _, _, fs, rfl, Tm.cl, hd, hk, q2 σ H fs _ hs hd q⟩⟩
end
/-! ### a def that is called with the error at hand -/
abbrev SpP := Addr × Obj → Sp
structure FnP (P : Program) (w : World) (K : PySem.W.Frag) (mg : Str → Option Value) (base : Heap) (CX : CXT) (k : Nat) (f : Addr) (fd : FuncData) (ps : List Str) (sp : SpP) : Prop where
  len : ∀ p vs H Q E, sp p vs H Q E → vs.length = ps.length
  run : ∀ (A : Around) (outer : List Env) (s : Shared) (H : Hp) (args : Args) (us : List Value) (vs : List V) (Q : VK) (E : XK) (p : Addr × Obj), L2H.RoomH k A → L2H.Hot1 A p → L2H.PinOk outer H s p → Env0 P w K mg base A outer s H → BindsTo s fd args (ps.zip us) → Vals vs us → sp p vs H Q E →
    codeAny (model P w) A (.call (.ref f) args) (CR CX outer P w H s Q E) s
theorem fn_ofP {CX : CXT} {P : Program} {w : World} {K : PySem.W.Frag} {mg : Str → Option Value} {base : Heap} {k : Nat} {f : Addr} {name qual : Str} {params : Arguments} {body : List Stmt} {scope : Scope} {dV kV doc pm cdv ct oc : Value} {an od : Option Addr}
    {osl : Array (Option Value)} {N ps : List Str} {sp : SpP} (lk : K.lookup f = some ⟨oc, od, .func (PySem.W.fnOf name qual params body scope dV kV doc pm an cdv ct), osl⟩) (hcd : PySem.W.codeIn K cdv qual = true) (S : FnScope N ps scope)
    (len : ∀ p vs H Q E, sp p vs H Q E → vs.length = ps.length)
    (hbody : ∀ (A : Around) (outer : List Env) (s : Shared) (H : Hp) (vs : List V) (Q : VK) (E : XK) (p : Addr × Obj), L2H.Hot1 A p → L2H.RoomH k (A.deeper (envOfC qual scope s.heap.objs.size f cdv)) → sp p vs H Q E →
      RunSs (L2H.cxH CX P w K mg base N qual scope f cdv A outer s H E p) body { nx := fun _ H' => Q .non H', rt := Q } (L2.start N vs) H) :
    FnP P w K mg base CX (k + 1) f (PySem.W.fnOf name qual params body scope dV kV doc pm an cdv ct) ps sp :=
  ⟨len, fun A outer s H args us vs Q E p hr hot hpin e0 hb r hsp => by
    let sp0 : Sp := fun vs' H' Q' E' => vs' = vs ∧ H' = H ∧ Q' = Q ∧ E' = E
    have KX : K.In s.heap := e0.mod.kin.keeps fun b o e => (e0.bs b o e).1
    have lim : s.heap.NoLimit := e0.mod.nolimit.keeps fun b o e => (e0.bs b o e).1
    have hkind : ∀ y ∈ ps.zip us, scope.names.lookup y.1 = some .local ∨ (scope.names.lookup y.1 = some .cell ∧ ((cellsFrom (s.heap.objs.size + 1) scope.names []).lookup y.1).isSome = true) := fun ⟨n, v⟩ hy => (S.par n (List.of_mem_zip hy).1).elim (fun q => .inl q) fun q => .inr ⟨q, PySem.W.cellsFrom_some _ _ _ (.inl q)⟩
    refine codeAny_call_function hr.depth (KX _ _ lk) rfl S.co S.gen rfl (PySem.W.codeRec_of KX hcd) (hb _ _ _ _ (wpAny_newFunctionEnv_cells S.kind hkind fun env he s1 x => ?_))
    subst he
    refine ⟨lim.keeps x.toInCall.keep, codeAny_func ?_⟩
    have J0 := L2H.inv_startH (CX := CX) (E := E) S hpin e0 (len _ _ _ _ _ hsp) r x
    refine wpAny_mono (hbody A outer s H vs Q E p hot (hr.deeper _) hsp [] s1 J0) (fun fl s' hs => ?_) fun e s' hs => hs
    cases fl with
    | ret u => let ⟨v, σ', H', J, rv, q⟩ := hs; exact ⟨v, H', J.os, J.bare, J.base, J.hok, rv, q⟩
    | next => let ⟨σ', H', J, q⟩ := hs; exact ⟨.non, H', J.os, J.bare, J.base, J.hok, rfl, q⟩
    | brk => exact hs.elim fun _ z => z.elim fun _ z => z.2.elim
    | cont => exact hs.elim fun _ z => z.elim fun _ z => z.2.elim⟩
section
variable {X : Cx} {CX : CXT} {k : Nat} {f : Addr} {fd : FuncData} {ps : List Str} {sp : SpP} {E : XK} {x : Str} {q pos : Pos} {e : Expr} {es : List Expr} {t : TA} {p : Addr × Obj}
theorem pe_callP (F : FnP X.prog X.w X.K X.mg X.base CX k f fd ps sp) (hr : L2H.RoomH k X.A) (hot : L2H.Hot1 X.A p) (hp : p ∈ X.pn) (hg : Gl X x) (hm : X.mg x = some (.ref f)) (hk : PySem.W.keepIn X.K (.ref f) = true) (hb : Binds X.K fd ps []) (hx : ∀ σ, PassesAt CX X σ E)
    (ha : PA X (e :: es) t) (hdb : (x == ("__debug__" : Str)) = false) (he : starEach (e :: es) X.env = (false, eval e X.env) :: starEach es X.env := by rfl) (hpl : (backTo pos (starEach es X.env)).any (·.1) = false := by rfl) :
    PE X (.Call (.Name x q) (e :: es) [] pos) (fun σ H Q => t σ H fun vs H1 => sp p vs H1 Q E) := by
  refine ⟨fun pins s σ H Q I h => wpAny_Call_Name_kw (ld_glob I hg hm (PySem.W.callWith_K (h₀ := X.base) I.ok.mod.kin hk (thn (ha.run pos pins s σ H _ I h) fun us s1 z => ?_) he hpl) hdb)⟩
  obtain ⟨vs, H1, J, r, h1⟩ := z
  refine ⟨J.kIn, ?_⟩
  have hl : us.length = ps.length := by rw [← r.length]; exact F.len _ _ _ _ _ h1
  have b := hb s1 us J.kIn (by rw [List.append_nil]; exact hl)
  rw [List.append_nil] at b
  have P1 := J.pin p (List.mem_append_left _ hp)
  have pk : L2H.PinOk X.stack H1 s1 p := ⟨P1.1, P1.2.1, fun z => (List.mem_cons.mp (J.stkSub p.1 z)).elim P1.2.2.1 P1.2.2.2.1, P1.2.2.2.2⟩
  refine wpAny_call (codeAny_mono (F.run X.A X.stack s1 H1 ⟨us, []⟩ us vs Q E p hr hot pk J.env0 b r h1) fun res s' hq => ?_)
  match res, hq with
  | .error er, hq => exact hx σ pins H1 s1 er s' J hq
  | .ok (.ret u), hq => exact J.after hq
  | .ok .next, hq => exact hq.elim
  | .ok .brk, hq => exact hq.elim
  | .ok .cont, hq => exact hq.elim
end
end GW

set_option maxHeartbeats 2000000
/-! the law's `_law_kinds..` of the error at hand -/
namespace GW
open PySem PySem.Spec PyProof.Rows L2
def outB (off : Int) (bs : List Bool) (i : Nat) : List Int := ((List.range i).filter (fun j => bs.getD j false)).map (fun j : Nat => off + (j : Int))
theorem outB_succ (off : Int) (bs : List Bool) (i : Nat) : outB off bs (i + 1) = if bs.getD i false = true then outB off bs i ++ [off + (i : Int)] else outB off bs i := by
  unfold outB
  rw [List.range_succ, List.filter_append, List.map_append]
  by_cases h : bs.getD i false = true
  · rw [if_pos h, List.filter_cons, if_pos (show ((fun j => bs.getD j false) i) = true from h)]; rfl
  · rw [if_neg h, List.filter_cons, if_neg (show ¬ ((fun j => bs.getD j false) i) = true from h)]; simp
theorem outB_len (off : Int) (bs : List Bool) (i : Nat) : (outB off bs i).length ≤ i := by
  unfold outB
  rw [List.length_map]
  exact Nat.le_trans (List.length_filter_le _ _) (by simp)
theorem upd_upd {H : Hp} {a : Addr} {o o' : HO} : upd (upd H a o) a o' = upd H a o' := by
  funext b
  by_cases e : b = a
  · rw [e, upd_same, upd_same]
  · rw [upd_ne e, upd_ne e, upd_ne e]
section
variable {X : Cx} {σ : St} {H : Hp} {p : Addr × Obj} {C dx : Addr} {fs : List (Str × V)} {N bl : List Str} {sc : Scope} {bs1 bs2 bs3 : List Bool} {es1 es2 es3 : List Expr} {xe xt xk : Str} {off : Int}
/-- a comprehension in a hot context, its parts as they run -/
theorem pe_lcHU {elt tg iter : Expr} {ifs : List Expr} {scope : Scope} {own : List (Str × Nat)} {pos : Pos} {wi : TI} (hc : L2H.HotC X) (hN : X.N.Nodup) (hi : L2H.PIH X tg iter wi) (ok : BlkOk X.N X.env.scope scope own) (hs : ∀ x, foldedSetIterable iter X.env x = pure x := by intro _; rfl) :
    PE X (.ListComp elt [⟨tg, iter, ifs, 0⟩] scope pos) (tLc wi
      (fun v σ H Q => ∀ (s : Shared) (H1 : Hp) (C : Addr) (cl : List (Str × Addr)) (fp : List Addr), RunG (blkP X s H1 scope (compEnvC scope cl C X.env) fp) tg v σ H Q)
      (fun σ H Q => ∀ (s : Shared) (H1 : Hp) (C : Addr) (cl : List (Str × Addr)) (fp : List Addr), RunTs (blkP X s H1 scope (compEnvC scope cl C X.env) fp) ifs σ H Q)
      (fun σ H Q => ∀ (s : Shared) (H1 : Hp) (C : Addr) (cl : List (Str × Addr)) (fp : List Addr), RunE (blkP X s H1 scope (compEnvC scope cl C X.env) fp) elt σ H Q) (own.map (·.2))) :=
  pe_lcH hc hN hi ok (fun s H1 C cl fp => ⟨fun pins s' σ H v u Q I r h => h s H1 C cl fp pins s' u I r⟩) (fun s H1 C cl fp => ⟨fun pins s' σ H Q I h => h s H1 C cl fp pins s' I⟩) (fun s H1 C cl fp => ⟨fun pins s' σ H Q I h => h s H1 C cl fp pins s' I⟩) hs
theorem kinds_body {elt : Expr} {scope : Scope} {Z : Ends} {p1 p2 p3 p4 p5 p6 p7 p8 q4 q5 q6 q7 q8 pk pr pc prr pt pkk ps pos pz : Pos} {jc : Nat}
    (hc : L2H.HotC X) (hp : p ∈ X.pn) (ep : ErrP C dx p) (Kc : KitC X.K C) (hN : X.N = N) (hsc : X.env.scope = sc) (nd : N.Nodup) (hbl : ∀ x ∈ bl, X.mg x = none) (hglob : ∀ x, sc.names.lookup x = some .globalImplicit → Gl X x) (hfn : ∀ x, X.fn x = true)
    (h0 : nmB N sc 0 xe = true) (h1 : nmB N sc 1 xt = true) (h1w : nwB N sc 1 xt = true) (his : bnB sc bl "isinstance" = true) (hrg : bnB sc bl "range" = true) (ok : blkB N sc scope [(xk, 2)] = true)
    (k1 : nmB N (relS scope sc) 1 xt = true) (k2 : nmB N (relS scope sc) 2 xk = true) (k2w : nlB N (relS scope sc) 2 xk = true)
    (i1 : IsEs X C xe es1 bs1) (i2 : IsEs X C xe es2 bs2) (i3 : IsEs X C xe es3 bs3) (l1 : bs1.length = 4) (l2 : bs2.length = 4) (l3 : bs3.length = 4)
    (hel : ∀ (Y : Cx) (i : Int) (σ : St) (H : Hp) (Q : VK), Y.N = N → Y.env.scope = relS scope sc → σ[2]? = some (some (.int i)) → Q (.int (off + i)) H → RunE Y elt σ H Q)
    (hd : H dx = some (.xd fs)) (q : ∀ a H', Gr H H' → H a = none → H' a = some (.lst ((outB off (bs1 ++ bs2 ++ bs3) 12).map V.int)) → Z.rt (.ref a) H')
    (hbase : attributeBase (.Name xt p4) "extend" X.env (eval (.Name xt p4) X.env) = eval (.Name xt p4) X.env := by rfl)
    (hbase' : attributeBase (.Name xt q4) "extend" X.env (eval (.Name xt q4) X.env) = eval (.Name xt q4) X.env := by rfl)
    (hline : (p5.endLine == p7.line) = true := by rfl) (hline' : (q5.endLine == q7.line) = true := by rfl) :
    RunSs X [.Assign [.Name xt p1] (.List es1 p2) p3, .Expr (.Call (.Attribute (.Name xt p4) "extend" p5) [.List es2 p6] [] p7) p8, .Expr (.Call (.Attribute (.Name xt q4) "extend" q5) [.List es3 q6] [] q7) q8,
      .Return (some (.ListComp elt [⟨.Name xk pk, .Call (.Name "range" pr) [.Constant (.int 12) jc pc] [] prr, [.Subscript (.Name xt pt) (.Name xk pkk) ps], 0⟩] scope pos)) pz] Z [some (.ref p.1), none, none] H := by
  obtain ⟨a1, a2, a3, a4⟩ := nmB_ok h0
  obtain ⟨b1, b2, b3, b4⟩ := nmB_ok h1
  have gi := hglob _ (bnB_ok his).1
  have mi := hbl _ (bnB_ok his).2
  have gr := hglob _ (bnB_ok hrg).1
  have mr := hbl _ (bnB_ok hrg).2
  have nx : X.N.Nodup := by rw [hN]; exact nd
  have ax : X.N[0]? = some xe := by rw [hN]; exact a1
  have bx : X.N[1]? = some xt := by rw [hN]; exact b1
  obtain ⟨t1, e1, f1⟩ := i1.pa hp ep Kc gi mi ax (by rw [hsc]; exact a2) a3 a4
  obtain ⟨t2, e2, f2⟩ := i2.pa hp ep Kc gi mi ax (by rw [hsc]; exact a2) a3 a4
  obtain ⟨t3, e3, f3⟩ := i3.pa hp ep Kc gi mi ax (by rw [hsc]; exact a2) a3 a4
  have vt : ∀ pos : Pos, PE X (.Name xt pos) _ := fun pos => pe_var (i := 1) (pos := pos) bx (by rw [hsc]; exact b2) b3 b4
  refine .of (pss_cons (ps_set nx bx (by rw [hsc]; exact (nwB_ok h1w).2) (pe_lst e1) rfl (.inl (hfn _))) (pss_cons (ps_expr (pe_bm PySem.F.plainAttrs_list PySem.F.slot_list_extend PySem.F.type_list_extend mt_extend (vt _) (pa_cons (pe_lst e2) pa_nil rfl) hbase rfl hline rfl rfl) rfl)
    (pss_cons (ps_expr (pe_bm PySem.F.plainAttrs_list PySem.F.slot_list_extend PySem.F.type_list_extend mt_extend (vt _) (pa_cons (pe_lst e3) pa_nil rfl) hbase' rfl hline' rfl rfl) rfl)
    (pss_one (ps_ret (pe_lcHU (own := [(xk, 2)]) hc nx (L2H.pi_range1H gr mr (pa_cons pe_int pa_nil rfl) rfl) (by rw [hN, hsc]; exact blkB_ok ok))))))) ?_
  have sl : ∀ bs : List Bool, bs.length = 4 → (bs.map V.bl).length ≤ sizeLine := fun bs h => by rw [sizeLine_eq, List.length_map]; omega
  refine f1 _ _ fs _ rfl hd ⟨sl _ l1, fun A hA => ?_⟩
  -- told
  have g1 : Gr H (upd H A (.lst (bs1.map V.bl))) := (Gr.refl H).put hA (fun _ _ z => nomatch z)
  refine ⟨_, rfl, ⟨.inl ⟨rfl, _, .of upd_same⟩, ?_⟩⟩
  refine f2 _ _ fs _ rfl (g1.old _ _ hd) ⟨sl _ l2, fun B hB => ?_⟩
  have nAB : A ≠ B := fun z => by rw [← z, upd_same] at hB; cases hB
  have g2 := g1.put (o := .lst (bs2.map V.bl)) (g1.none hB) (fun _ _ z => nomatch z)
  have w2 := upd_same (H := upd H A (.lst (bs1.map V.bl))) (a := B) (o := .lst (bs2.map V.bl))
  refine ⟨A, B, _, _, rfl, rfl, by rw [upd_ne nAB, upd_same], w2, by rw [sizeLine_eq]; simp; omega, ?_⟩
  have g3 := g2.put (o := .lst (bs1.map V.bl ++ bs2.map V.bl)) hA (fun _ _ z => nomatch z)
  refine ⟨_, rfl, ⟨.inl ⟨rfl, _, .of upd_same⟩, ?_⟩⟩
  refine f3 _ _ fs _ rfl (g3.old _ _ hd) ⟨sl _ l3, fun B' hB' => ?_⟩
  have nAB' : A ≠ B' := fun z => by rw [← z, upd_same] at hB'; cases hB'
  have g4 := g3.put (o := .lst (bs3.map V.bl)) (g3.none hB') (fun _ _ z => nomatch z)
  refine ⟨A, B', _, _, rfl, rfl, by rw [upd_ne nAB', upd_same], upd_same, by rw [sizeLine_eq]; simp; omega, ?_⟩
  have g5 := g4.put (o := .lst (bs1.map V.bl ++ bs2.map V.bl ++ bs3.map V.bl)) hA (fun _ _ z => nomatch z)
  have hT : upd (upd (upd (upd (upd H A (.lst (bs1.map V.bl))) B (.lst (bs2.map V.bl))) A (.lst (bs1.map V.bl ++ bs2.map V.bl))) B' (.lst (bs3.map V.bl))) A (.lst (bs1.map V.bl ++ bs2.map V.bl ++ bs3.map V.bl)) A = some (.lst (bs1.map V.bl ++ bs2.map V.bl ++ bs3.map V.bl)) := upd_same
  generalize upd (upd (upd (upd (upd H A (.lst (bs1.map V.bl))) B (.lst (bs2.map V.bl))) A (.lst (bs1.map V.bl ++ bs2.map V.bl))) B' (.lst (bs3.map V.bl))) A (.lst (bs1.map V.bl ++ bs2.map V.bl ++ bs3.map V.bl)) = H5 at g5 hT
  have hT : H5 A = some (.lst ((bs1 ++ bs2 ++ bs3).map V.bl)) := by rw [hT]; simp
  have lb : (bs1 ++ bs2 ++ bs3).length = 12 := by simp; omega
  generalize hbs : bs1 ++ bs2 ++ bs3 = bs at hT lb q
  refine ⟨12, rfl, by decide, by decide, fun D hD => ?_⟩
  have nAD : A ≠ D := fun z => by rw [← z, hT] at hD; cases hD
  have g6 : ∀ xs, Gr H (upd H5 D (.lst xs)) := fun xs => g5.put (g5.none hD) (fun _ _ z => nomatch z)
  refine ⟨fun i m H' => m = 12 - i ∧ i ≤ 12 ∧ H' = upd H5 D (.lst ((outB off bs i).map V.int)), ⟨12, rfl, by omega, rfl⟩, ?_⟩
  rintro i m H' ⟨rfl, hi, rfl⟩
  by_cases hlt : i < 12
  · right
    refine ⟨hlt, fun H2 => H2 = upd H5 D (.lst ((outB off bs (i + 1)).map V.int)), fun H2 e => ⟨12 - (i + 1), by omega, rfl, by omega, e⟩, fun x H2 y => ?_⟩
    obtain ⟨rfl, rfl⟩ := y
    intro s1 H1 C1 cl1 fp1
    obtain ⟨m1, m2, m3, m4⟩ := nmB_ok k1
    obtain ⟨n1, n2, n3, n4⟩ := nmB_ok k2
    have scE : ∀ (C1 : Addr) (cl1 : List (Str × Addr)), (compEnvC scope cl1 C1 X.env).scope = relS scope sc := fun C1 cl1 => by rw [← hsc]; rfl
    refine .of (pg_name (X := blkP X s1 H1 scope (compEnvC scope cl1 C1 X.env) fp1) (i := 2) nx (by show X.N[2]? = _; rw [hN]; exact n1) (by show Loc (compEnvC scope cl1 C1 X.env).scope xk; rw [scE]; exact .inl (nlB_ok k2w).2) (.inr (by show (compEnvC scope cl1 C1 X.env).scope.names.lookup xk = _; rw [scE]; exact (nlB_ok k2w).2))) ?_
    refine ⟨by simp [wipe], fun s2 H2 C2 cl2 fp2 => ?_⟩
    have vk : ∀ pos : Pos, PE (blkP X s2 H2 scope (compEnvC scope cl2 C2 X.env) fp2) (.Name xk pos) _ := fun pos => pe_var (i := 2) (pos := pos) (by show X.N[2]? = _; rw [hN]; exact n1) (by show Vis (compEnvC scope cl2 C2 X.env).scope xk; rw [scE]; exact n2) n3 n4
    have vt' : ∀ pos : Pos, PE (blkP X s2 H2 scope (compEnvC scope cl2 C2 X.env) fp2) (.Name xt pos) _ := fun pos => pe_var (i := 1) (pos := pos) (by show X.N[1]? = _; rw [hN]; exact m1) (by show Vis (compEnvC scope cl2 C2 X.env).scope xt; rw [scE]; exact m2) m3 m4
    refine .of (pts_one (pt_val (pe_ix ix_list (vt' _) (vk _) (by intro o i; rfl)) (fun _ => rfl))) ?_
    have hk : (((wipe (List.set [some (V.ref p.1), none, none] 1 (some (V.ref A))) [2]).set 2 (some (V.int (0 + (i : Int))))))[2]? = some (some (V.int (0 + (i : Int)))) := by simp [wipe]
    refine ⟨_, rfl, _, hk, A, bs.map V.bl, _, .bl (bs.getD i false), rfl, rfl, .of (by rw [upd_ne nAD]; exact hT), ?_, ⟨_, rfl, ?_⟩⟩
    · unfold atI
      have : ixN (bs.map V.bl).length (0 + (i : Int)) = some i := by
        unfold ixN
        rw [List.length_map, lb]
        simp
        omega
      rw [this]
      simp [List.getElem?_map, List.getD, List.getElem?_eq_getElem (show i < bs.length by omega)]
    · by_cases hb : bs.getD i false = true
      · show (if bs.getD i false = true then _ else _)
        rw [if_pos hb]
        intro s3 H3 C3 cl3 fp3
        refine hel _ (0 + (i : Int)) _ _ _ hN (scE _ _) hk ⟨_, upd_same, by rw [sizeLine_eq, List.length_map]; have := outB_len off bs i; omega, ?_⟩
        rw [upd_upd, outB_succ, if_pos hb, List.map_append]
        simp
      · show (if bs.getD i false = true then _ else _)
        rw [if_neg hb, outB_succ, if_neg hb]
  · left
    obtain rfl : i = 12 := by omega
    exact ⟨by show 12 ≤ 12; omega, q D _ (g6 _) (g5.none hD) upd_same⟩
end
end GW

set_option maxHeartbeats 2000000
/-! try: raise C(x), except B as e: told = f(e) -/
namespace GW
open PySem PySem.Spec PyProof.Rows L2
section
variable {g : Gd} {X : Cx} {W : WX} {σ : St} {er : Er} {H : Hp} {ρ : Ro} {μ : Mu} {bl : List Str} {n : Nat} {N : List Str} {sc : Scope}
theorem tr_xd {H1 : Hp} {a dx C : Addr} {f : Str} {v : V} (ha : H1 a = none) (ne : dx ≠ a) : upd (del (upd (upd (upd H1 a (exo a C none)) dx (exd dx [(f, v)])) a (exo a C (some dx))) a) dx (.xd [(f, v)]) = upd H1 dx (.xd [(f, v)]) := by
  funext b
  by_cases e1 : b = dx
  · rw [e1, upd_same, upd_same]
  · rw [upd_ne e1, upd_ne e1]
    by_cases e2 : b = a
    · rw [e2, del_same, ha]
    · rw [del_ne e2, upd_ne e2, upd_ne e1, upd_ne e2]
theorem takes_n (tk : Takes X W) : L2N.Takes X W := fun u s' ⟨a, B, sI, pins, σ, H, cls, d, e, I, nb, up, sky, r⟩ => by
  refine tk u s' ⟨a, B, sI, pins, σ, H, cls, d, e, I, nb, up, ?_, r⟩
  have tr : ∀ (v : Value), HandSPX.TracedZ s'.heap B a (L2N.Zn cls d) v → HandSPX.TracedZ s'.heap B a (Zc cls d) v := fun v ⟨oe, vs, T, oT, ts, h1, h2, h3⟩ => ⟨oe, vs, T, oT, ts, h1, h2.zc, h3⟩
  rcases sky with ⟨z1, z2, z3, oe, vs, z4, z5, z6⟩ | ⟨z1, z2, z3, z4⟩ | ⟨z1, z2, z3, z4⟩
  · exact .inl ⟨z1, z2, z3, oe, vs, z4, z5.zc, z6⟩
  · exact .inr (.inl ⟨z1, z2, z3, tr _ z4⟩)
  · exact .inr (.inr ⟨z1, z2, z3, tr _ z4⟩)
/-- the error that a raise makes where nothing is handled -/
theorem pmkN {x f : Str} {e : Expr} {te : TE} {p pos : Pos} {C fI : Addr} {fd : FuncData} {ps : List Str} (T : OexC X.K C) (iC : PySem.W.findIn X.K (.ref C) "__init__" = some (some (.ref fI))) (tI : PySem.W.typeIn X.K (.ref fI) = some (.type "function"))
    (F1 : FnOk X.prog X.w X.K X.mg X.base (L2.CX X.prog X.w) 1 fI fd ps (spI X.K f)) (hr : Room 2 X.A) (hb : L2.Binds X.K fd ps []) (hno : PySem.W.findIn X.K (.ref C) f = some none) (hg : Gl X x) (hm : X.mg x = some (.ref C)) (ha : PE X e te)
    (hdb : (x == ("__debug__" : Str)) = false) (he : starEach [e] X.env = (false, eval e X.env) :: starEach [] X.env := by rfl) (hpl : (backTo pos (starEach [] X.env)).any (·.1) = false := by rfl) :
    L2N.PMk X (.Call (.Name x p) [e] [] pos) (fun σ H Q => te σ H fun x H1 => ∃ v, [x] = [v] ∧ ∀ dx, H1 dx = none → Q (.ref C) (some dx) (upd H1 dx (.xd [(f, v)]))) := by
  intro pins s σ H Q I h
  obtain ⟨nm, q, cN, bs, bm, sn, sub, ab, col, dd, k0, k1, k2, k3, k5, hC, hbm⟩ := T.cls
  refine wpAny_Call_Name_kw (ld_glob I hg hm (PySem.W.callWith_K (h₀ := X.base) I.ok.mod.kin T.kC (thn ((pa_cons ha pa_nil he).run pos pins s σ H (fun vs H1 => ∃ v, vs = [v] ∧ ∀ dx, H1 dx = none → Q (.ref C) (some dx) (upd H1 dx (.xd [(f, v)]))) I h) fun us s1 z => ?_) he hpl) hdb)
  obtain ⟨vs, H1, I1, r1, v, ev, q1⟩ := z
  subst ev
  refine ⟨I1.kIn, ?_⟩
  show wpAny _ _ (call (.ref C) us) _ _ _
  obtain ⟨u, eu, ru⟩ := r1.one
  subst eu
  obtain ⟨hp, gs, dr, tok, os⟩ := s1
  have hsz : hp.objs.size ≤ hp.objs.size + 1 := Nat.le_succ _
  have hn : H1 (hp.objs.size + 1) = none := I1.hok.fresh hsz
  have kk : ∀ b o, hp.get? b = some o → ((hp.push (PySem.W.kdv_tup [u])).push (PySem.HandSPX.excO C hp.objs.size)).get? b = some o := fun b o e => Heap.get?_push_of_some _ (Heap.get?_push_of_some _ e)
  have hget : ((hp.push (PySem.W.kdv_tup [u])).push (PySem.HandSPX.excO C hp.objs.size)).get? (hp.objs.size + 1) = some (PySem.HandSPX.excO C hp.objs.size) := by heap_get
  have I2 : Inv X pins σ (upd H1 (hp.objs.size + 1) (exo (hp.objs.size + 1) C none)) ⟨(hp.push (PySem.W.kdv_tup [u])).push (PySem.HandSPX.excO C hp.objs.size), gs, dr, tok, os⟩ :=
    I1.laid (t' := tok) (a := hp.objs.size + 1) (o := exo (hp.objs.size + 1) C none) (h' := (hp.push (PySem.W.kdv_tup [u])).push (PySem.HandSPX.excO C hp.objs.size)) kk hsz (exo_ok hget)
  have r2 : Vals [V.ref (hp.objs.size + 1), v] [Value.ref (hp.objs.size + 1), u] := .cons rfl (.cons ru .nil)
  have hq : spI X.K f [V.ref (hp.objs.size + 1), v] (upd H1 (hp.objs.size + 1) (exo (hp.objs.size + 1) C none)) (fun x H' => x = .non ∧ ∃ dx, H1 dx = none ∧ dx ≠ hp.objs.size + 1 ∧ H' = upd (upd (upd H1 (hp.objs.size + 1) (exo (hp.objs.size + 1) C none)) dx (exd dx [(f, v)])) (hp.objs.size + 1) (exo (hp.objs.size + 1) C (some dx))) (fun _ _ _ => False) :=
    ⟨_, C, v, rfl, T, hno, upd_same, fun dx h1 h2 => ⟨rfl, dx, by rw [upd_ne h2] at h1; exact h1, h2, rfl⟩⟩
  have hl : ([Value.ref (hp.objs.size + 1), u] ++ []).length = ps.length := by
    have e := r2.length
    rw [F1.len _ _ _ _ hq] at e
    rw [List.append_nil]
    exact e.symm
  have b2 := hb _ [Value.ref (hp.objs.size + 1), u] I2.kIn hl
  rw [List.append_nil] at b2
  refine wpAny_call (PySem.HandSPX.call_own F.excBase_ValueError (fun Y => PySem.HandSPX.refsVE_contains Y bm hbm) (I1.kIn _ _ hC) (PySem.W.looks_findIn I1.kIn iC) (fun self => PySem.W.bind_fn I1.kIn self tI) (by rw [sizeLine_eq]; simp)
    (codeAny_mono (F1.run _ X.stack _ _ ⟨[Value.ref (hp.objs.size + 1), u], []⟩ [Value.ref (hp.objs.size + 1), u] _ _ (fun _ _ _ => False) (hr.make C [u] []) (I2.env0.make C [u] []) b2 r2 hq) fun res s' hq' => ?_))
  match res, hq' with
  | .error er, hq' => exact False.elim (let ⟨_, _, _, _, _, _, _, _, _, _, _, _, z⟩ := hq'; z)
  | .ok .next, hq' => exact hq'.elim
  | .ok .brk, hq' => exact hq'.elim
  | .ok .cont, hq' => exact hq'.elim
  | .ok (.ret u'), hq' =>
    obtain ⟨v', H2, os2, bare2, un2, hok2, rv, ev, dx, hd1, hne, eH⟩ := hq'
    subst ev
    subst eH
    obtain ⟨h2, g2, d2, t2, os'⟩ := s'
    have ea : (upd (upd (upd H1 (hp.objs.size + 1) (exo (hp.objs.size + 1) C none)) dx (exd dx [(f, v)])) (hp.objs.size + 1) (exo (hp.objs.size + 1) C (some dx))) (hp.objs.size + 1) = some (exo (hp.objs.size + 1) C (some dx)) := upd_same
    have ed : (upd (upd (upd H1 (hp.objs.size + 1) (exo (hp.objs.size + 1) C none)) dx (exd dx [(f, v)])) (hp.objs.size + 1) (exo (hp.objs.size + 1) C (some dx))) dx = some (exd dx [(f, v)]) := by rw [upd_ne hne, upd_same]
    obtain ⟨t0, G, J, kG, ge, hoe, na⟩ := mk_end0 (d2 := d2) (t2 := t2) I1 hsz kk un2 hok2 os2 bare2 ea ed hd1
    rw [tr_xd hn hne] at J na
    exact ⟨rv, hp.objs.size + 1, _, _, ⟨G, g2, d2, t2, os'⟩, _, .ref C, some dx, rfl, J, kG, ge, hoe, ⟨rfl, rfl, fun vs hv => by cases hv; rfl⟩, rfl, rfl, na, rfl, bare2, raises_own T.exC T.tyC, q1 dx hd1⟩
/-- a suite for an error of the class named x: what it makes -/
def OkUH (g : Gd) (X : Cx) (x nm f : Str) (i : Nat) (suite : List Stmt) (sf : D → Ro → Mu → Rs Fl) : Prop := ∀ (av : Addr → Prop) (σ : St) (er : Er) (H : Hp) (ρ : Ro) (μ : Mu) (Z : Ends) (a C dd : Addr) (v : V) (d : D) (oe : Obj) (pn : List (Addr × Obj)), RepEnv (g.at av) er μ.ec H ρ σ → HpOk (g.at av) er H μ →
  g.mg x = some (.ref C) → L2N.Zn (.ref C) (some dd) oe → (∃ vs, oe.data = .fields vs) → Caught X nm f i a C dd v σ H → RepD (g.at av) er μ.ec H (Ow ρ σ) v d → DenS (g.at av) (fun _ _ _ _ => False) σ er H ρ μ (sf d ρ μ) Z → RunSs (X.suite a ((a, oe) :: pn)) suite Z σ H
def sTryH (i : Nat) (fe : Ro → Mu → Rs D) (sf : D → Ro → Mu → Rs Fl) : Ro → Mu → Rs Fl := fun ρ μ => (noX (fe ρ μ)).bind fun d ρ1 μ1 => (datR d ρ1 μ1).bind fun d ρ2 μ2 => post i (noX (sf d (ρ2.set i .un) μ2))
theorem okE_noX {Y : Cx} {e : Expr} {fe : Ro → Mu → Rs D} (O : OkE g Y e fe) : OkE g Y e fun ρ μ => noX (fe ρ μ) := by
  intro av W σ er H ρ μ Q tk E P h
  refine O av W σ er H ρ μ Q tk E P ?_
  have h : Den (g.at av) W σ er H ρ μ (noX (fe ρ μ)) Q := h
  cases e' : fe ρ μ with
  | ok d ρ1 μ1 => rw [e'] at h; exact h
  | ex x fs ρ1 μ1 => rw [e'] at h; exact h.elim
  | no => rw [e'] at h; exact h.elim
theorem denS_false {r : Rs Fl} {Z : Ends} (hr : ∀ x fs ρ' μ', r ≠ .ex x fs ρ' μ') (h : DenS g W σ er H ρ μ r Z) : DenS g (fun _ _ _ _ => False) σ er H ρ μ r Z := by
  cases r with
  | ok o ρ1 μ1 => cases o <;> exact h
  | ex x fs ρ1 μ1 => exact absurd rfl (hr _ _ _ _)
  | no => exact h.elim
theorem sTryH_nx {i : Nat} {fe : Ro → Mu → Rs D} {sf : D → Ro → Mu → Rs Fl} {x : Str} {fs : List (Str × D)} {ρ' : Ro} {μ' : Mu} : sTryH i fe sf ρ μ ≠ .ex x fs ρ' μ' := by
  intro h
  unfold sTryH at h
  cases e : fe ρ μ with
  | no => rw [e] at h; cases h
  | ex _ _ _ _ => rw [e] at h; cases h
  | ok d ρ1 μ1 =>
    rw [e] at h
    have h : ((datR d ρ1 μ1).bind fun d ρ2 μ2 => post i (noX (sf d (ρ2.set i .un) μ2))) = .ex x fs ρ' μ' := h
    unfold datR at h
    cases e2 : fz d ρ1 with
    | none => rw [e2] at h; cases h
    | some p =>
      rw [e2] at h
      have h : post i (noX (sf p.1 (p.2.set i .un) μ1)) = .ex x fs ρ' μ' := h
      cases e3 : sf p.1 (p.2.set i .un) μ1 <;> rw [e3] at h <;> cases h
theorem OkS.tryH {x f nm cN : Str} {i : Nat} {e : Expr} {fe : Ro → Mu → Rs D} {b₀ : Stmt} {suite : List Stmt} {p cp rp np pos' pos : Pos} {sf : D → Ro → Mu → Rs Fl} {Cw : Addr} (C : Cxt g bl n N sc X) (T : CxT X) (K : ExcK g X x f) (hn : 2 ≤ n) (hg : gnB sc x = true) (hc : Names X cN (.ref Cw)) (hx : ∀ C, g.mg x = some (.ref C) → PySem.W.exmOne g.K (.ref C) (.ref Cw) = some true) (hi : nlB N sc i nm = true)
    (O : ∀ pn xe, PassesOwn (model X.prog X.w) X.A X.env xe → OkE g (X.tr pn xe) e fe) (hu : OkUH g X x nm f i (b₀ :: suite) sf) (he : starEach [e] X.env = (false, eval e X.env) :: starEach [] X.env := by rfl) (hpl : (backTo cp (starEach [] X.env)).any (·.1) = false := by rfl) :
    OkS g X (.Try [.Raise (some (.Call (.Name x p) [e] [] cp)) none rp] [.ExceptHandler (some (.Name cN np)) (some nm) (b₀ :: suite) pos'] [] [] pos) (sTryH i fe sf) := by
  intro av W σ er H ρ μ Z tk E P h
  obtain ⟨Cc, fI, fd, ps, TC, iC, tI, F1, hb, hm, hno⟩ := K.ex
  have hmg : g.mg x = some (.ref Cc) := by rw [← C.hm]; exact hm
  refine .of (L2N.ps_try_as (tb := fun W' D σ H => ∀ (pn : List (Addr × Obj)) (xe : Value → Shared → Prop), PassesOwn (model X.prog X.w) X.A X.env xe → RunE (X.tr pn xe) e σ H fun u H1 => ∃ v, [u] = [v] ∧ ∀ dx, H1 dx = none → W' (.ref Cc) (some dx) σ (upd H1 dx (.xd [(f, v)])))
    (ts := fun a cls d D σ H => ∀ (oe : Obj) (pn : List (Addr × Obj)), L2N.Zn cls d oe → (∃ vs, oe.data = .fields vs) → RunSs (X.suite a ((a, oe) :: pn)) (b₀ :: suite) D σ H)
    T.st T.fr C.ndup (C.at (nlB_ok hi).1) (by show X.env.scope.names.lookup nm = _; rw [C.hsc]; exact (nlB_ok hi).2) hc (takes_n tk) (fun W' pn xe tk' ow => ⟨fun pins s σ H D I q => ?_⟩) (fun a oe cls d pn hz hf => ⟨fun pins s σ H D I q => q oe pn hz hf pins s I⟩)) ?_
  · exact (pss_one (L2N.ps_raise (X := X.tr pn xe) C.calm tk' (pmkN (X := X.tr pn xe) (te := RunE (X.tr pn xe) e) TC iC tI F1 (C.room.mono hn) hb hno (C.gl (gnB_ok hg).1) hm peR (gnB_ok hg).2 he hpl))).run pins s σ H D I (q pn xe ow)
  · intro pn xe ow
    have h0 := denS_false (fun _ _ _ _ => sTryH_nx) h
    refine runES (okE_noX (O pn xe ow)) (W := fun _ _ _ _ => False) LamX.takes0 E P h0 fun d ρ1 μ1 v H1 er1 E1 P1 r1 h1 => ?_
    obtain ⟨d', ρ2, E2, r2, h2⟩ := h1.dat E1 P1 r1
    refine ⟨v, rfl, fun dx hdx => ⟨true, by rw [C.hK]; exact hx _ hmg, fun _ a ha oe pn' hz hf pins s I => ?_, fun z => nomatch z⟩⟩
    have m0 := nx_new (o := .xd [(f, v)]) E2 P1 hdx
    have m1 := put_un (i := i) (v := .ref a) m0.env m0.hp
    have il : i < σ.length := by
      have h3 := (List.getElem?_eq_some_iff.mp (C.at (nlB_ok hi).1)).1
      have h4 := I.len
      rw [List.length_set] at h4
      rw [h4]; exact h3
    refine hu av _ er1 _ (ρ2.set i .un) μ1 _ a Cc dx v d' oe pn' m1.env m1.hp hmg hz hf ⟨set_get il, upd_same⟩ (RepD.less (fun b => ow_val rfl) (r2.nx m0 E2 P1)) ?_ pins s I
    cases e2 : noX (sf d' (ρ2.set i .un) μ1) with
    | no => rw [e2] at h2; exact h2.elim
    | ex _ _ _ _ => exfalso; cases e3 : sf d' (ρ2.set i .un) μ1 <;> rw [e3] at e2 <;> cases e2
    | ok o ρ3 μ3 =>
      rw [noX_ok e2]
      have h2 : DenS (g.at av) (fun _ _ _ _ => False) σ er1 H1 ρ2 μ1 (.ok o (ρ3.set i .un) μ3) Z := by rw [e2] at h2; exact h2
      cases o with
      | nx => exact fun σ2 H2 er2 m2 => h2 _ H2 er2 ((m0.s.trans (m1.trans m2)).trans (put_none m2.env m2.hp))
      | rt d2 => exact fun v2 σ2 H2 er2 m2 q2 => h2 v2 _ H2 er2 ((m0.s.trans (m1.trans m2)).trans (put_none m2.env m2.hp)) (RepD.less (fun b => ow_wipe (vs := [i])) q2)
end
end GW

set_option maxHeartbeats 2000000
/-! `_law_kinds..` of the error at hand, called from the suite -/
namespace GW
open PySem PySem.Spec PyProof.Rows L2
/-- the kinds of an error of the class xc -/
def spKi (mg : Str → Option Value) (xc : Str) (out : List Int) : SpP := fun p vs H Q _ => ∃ (C dx : Addr) (fs : List (Str × V)), ErrP C dx p ∧ vs = [.ref p.1] ∧ H dx = some (.xd fs) ∧ mg xc = some (.ref C) ∧ ∀ a H', Gr H H' → H a = none → H' a = some (.lst (out.map V.int)) → Q (.ref a) H'
structure FunP (X : Cx) (k : Nat) (x xc : Str) (out : List Int) : Prop where
  ex : ∃ (f : Addr) (fd : FuncData) (ps : List Str), FnP X.prog X.w X.K X.mg X.base (L2.CX X.prog X.w) k f fd ps (spKi X.mg xc out) ∧ X.mg x = some (.ref f) ∧ PySem.W.keepIn X.K (.ref f) = true ∧ L2.Binds X.K fd ps []
section
variable {g : Gd} {X : Cx} {W : WX} {σ : St} {er : Er} {H : Hp} {ρ : Ro} {μ : Mu} {bl : List Str} {n k : Nat} {N : List Str} {sc : Scope}
theorem reps_intsK {c : Nat} {ow : Addr → Prop} : ∀ is : List Int, RepDs g er c H ow (is.map V.int) (is.map D.int)
  | [] => .nil
  | i :: is => .cons (.int i) (reps_intsK is)
def suK (j : Nat) (out : List Int) : D → Ro → Mu → Rs Fl := fun _ ρ μ => .ok .nx (ρ.set j (.val (.lst μ.ec (out.map D.int)))) μ
theorem OkUH.kinds {x xc nm f y : Str} {i j : Nat} {out : List Int} {p1 p2 cp py pos : Pos} (C : Cxt g bl n N sc X) (CS : CxS X) (F : FunP X k x xc out) (hk : k ≤ n) (hg : gnB sc x = true) (hi : nmB N sc i nm = true) (hj : nwB N sc j y = true)
    (hs : swapsWith (.Call (.Name x p1) [.Name nm p2] [] cp) (some (.Name y py)) pos.line X.env = pure false := by rfl) (he : starEach [.Name nm p2] X.env = (false, eval (.Name nm p2) X.env) :: starEach [] X.env := by rfl) (hpl : (backTo cp (starEach [] X.env)).any (·.1) = false := by rfl) :
    OkUH g X xc nm f i [.Assign [.Name y py] (.Call (.Name x p1) [.Name nm p2] [] cp) pos] (suK j out) := by
  intro av σ er H ρ μ Z a Cc dd v d oe pn E P hmg hz hf kk r h
  obtain ⟨fa, fd, ps, Fk, hm, kp, hb⟩ := F.ex
  obtain ⟨a1, a2, a3, a4⟩ := nmB_ok hi
  have hot : L2H.Hot1 (X.suite a ((a, oe) :: pn)).A (a, oe) := ⟨rfl, let ⟨vs, hd⟩ := hf; ⟨vs, hd, hz.2.2 vs hd⟩⟩
  refine .of (pss_one (ps_set (X := X.suite a ((a, oe) :: pn)) C.ndup (C.at (nwB_ok hj).1) (C.loc (nwB_ok hj).2)
    (pe_callP (X := X.suite a ((a, oe) :: pn)) (E := fun _ _ _ => False) Fk ((L2H.roomH_mark C.room _).mono hk) hot List.mem_cons_self (C.gl (gnB_ok hg).1) hm kp hb (fun σ pins H s e s' _ c => (let ⟨_, _, _, _, _, _, _, _, _, _, _, _, z⟩ := c; z.elim))
      (pa_cons (pe_var (X := X.suite a ((a, oe) :: pn)) (i := i) (C.at a1) (by show Vis X.env.scope nm; rw [C.hsc]; exact a2) a3 a4) pa_nil he) (gnB_ok hg).2 he hpl) hs (.inl (CS.fn y)))) ?_
  refine ⟨_, kk.sl, Cc, dd, [(f, v)], ⟨hz.1, hz.2.1, hf⟩, rfl, kk.dict, by rw [← hmg]; exact congrFun C.hm xc, fun q H' gr hn hq => ?_⟩
  have m := nx_gr (g := g.at av) E P gr
  exact h _ H' er (m.s.trans (nxs_val m.env m.hp (.d (.lst hq (era_new P hn) (free_new E P hn) (reps_intsK out)))))
/-- both lists' kinds, one behind the other -/
theorem kinds2_body {p : Addr × Obj} {xc x1 x2 xe : Str} {o1 o2 : List Int} {Q : VK} {E : XK} {Z : Ends} {q1 q2 p1 p2 c1 c2 bp rp : Pos} (F1 : FunP X k x1 xc o1) (F2 : FunP X k x2 xc o2) (hr : L2H.RoomH k X.A) (hot : L2H.Hot1 X.A p) (hp : p ∈ X.pn) (hx : ∀ σ, PassesAt (L2.CX X.prog X.w) X σ E)
    (hN : X.N = N) (hsc : X.env.scope = sc) (hglob : ∀ x, sc.names.lookup x = some .globalImplicit → Gl X x) (g1 : gnB sc x1 = true) (g2 : gnB sc x2 = true) (h0 : nmB N sc 0 xe = true) (hl : o1.length + o2.length ≤ 1000)
    (h : spKi X.mg xc (o1 ++ o2) p [.ref p.1] H Z.rt E) (he1 : starEach [.Name xe p1] X.env = (false, eval (.Name xe p1) X.env) :: starEach [] X.env := by rfl) (he2 : starEach [.Name xe p2] X.env = (false, eval (.Name xe p2) X.env) :: starEach [] X.env := by rfl) (hpl1 : (backTo c1 (starEach [] X.env)).any (·.1) = false := by rfl) (hpl2 : (backTo c2 (starEach [] X.env)).any (·.1) = false := by rfl) :
    RunSs X [.Return (some (.BinOp (.Call (.Name x1 q1) [.Name xe p1] [] c1) .Add (.Call (.Name x2 q2) [.Name xe p2] [] c2) bp)) rp] Z [some (.ref p.1)] H := by
  obtain ⟨f1, fd1, ps1, Fk1, hm1, kp1, hb1⟩ := F1.ex
  obtain ⟨f2, fd2, ps2, Fk2, hm2, kp2, hb2⟩ := F2.ex
  obtain ⟨a1, a2, a3, a4⟩ := nmB_ok h0
  have vx : ∀ pos : Pos, PE X (.Name xe pos) _ := fun pos => pe_var (i := 0) (pos := pos) (by rw [hN]; exact a1) (by rw [hsc]; exact a2) a3 a4
  obtain ⟨C, dx, fs, ep, _, hd, hmc, q⟩ := h
  refine .of (pss_one (ps_ret (pe_op op_cat (pe_callP (E := E) Fk1 hr hot hp (hglob _ (gnB_ok g1).1) hm1 kp1 hb1 hx (pa_cons (vx p1) pa_nil he1) (gnB_ok g1).2 he1 hpl1) (pe_callP (E := E) Fk2 hr hot hp (hglob _ (gnB_ok g2).1) hm2 kp2 hb2 hx (pa_cons (vx p2) pa_nil he2) (gnB_ok g2).2 he2 hpl2)))) ?_
  refine ⟨_, rfl, C, dx, fs, ep, rfl, hd, hmc, fun a1 H1 gr1 hn1 hq1 => ?_⟩
  refine ⟨_, rfl, C, dx, fs, ep, rfl, gr1.old _ _ hd, hmc, fun a2 H2 gr2 hn2 hq2 => ?_⟩
  refine ⟨a1, a2, _, _, rfl, rfl, gr2.old _ _ hq1, hq2, by rw [sizeLine_eq, List.length_map, List.length_map]; omega, fun a3 hn3 => ?_⟩
  have gr := (gr1.trans gr2).put (o := .lst (o1.map V.int ++ o2.map V.int)) ((gr1.trans gr2).none hn3) (fun _ _ z => nomatch z)
  exact q a3 _ gr ((gr1.trans gr2).none hn3) (by rw [upd_same, List.map_append])
/-- a def by its hot body -/
theorem fn_byP {P : Program} {w : World} {K : PySem.W.Frag} {mg : Str → Option Value} {base : Heap} {x qual : Str} {params : Arguments} {body : List Stmt} {scope : Scope} {dvs : List V} {kws : List (Str × V)} {f : Addr} {fd : FuncData} {N ps : List Str} {sp : SpP}
    (F : FunD K x qual params body scope dvs kws f fd) (S : FnScope N ps scope) (len : ∀ p vs H Q E, sp p vs H Q E → vs.length = ps.length)
    (hb : ∀ (X : Cx) (p : Addr × Obj) (vs : List V) (H : Hp) (Q : VK) (E : XK), X.prog = P → X.w = w → X.base = base → X.K = K → X.mg = mg → X.N = N → X.env.scope = scope → (∀ x, X.fn x = true) → (∀ x, scope.names.lookup x = some .globalImplicit → Gl X x) → p ∈ X.pn → L2H.Hot1 X.A p → L2H.RoomH k X.A → (∀ σ, PassesAt (L2.CX X.prog X.w) X σ E) → sp p vs H Q E → RunSs X body { nx := fun _ H' => Q .non H', rt := Q } (L2.start N vs) H) :
    FnP P w K mg base (L2.CX P w) (k + 1) f fd ps sp := by
  obtain ⟨oc, od, dV, kV, doc, pm, an, cdv, ct, osl, rfl, lk, hcd, hD, hK⟩ := F.ex
  refine fn_ofP lk hcd S len fun A outer s H vs Q E p hot hr hsp => ?_
  refine hb _ p vs H Q E rfl rfl rfl rfl rfl rfl rfl (fun _ => rfl) (fun x hx => ?_) List.mem_cons_self hot hr ?_ hsp
  · exact hx
  · exact fun σ => passAt (takes_of rfl rfl rfl rfl) σ
end
end GW

set_option maxHeartbeats 2000000
/-! the kinds of the error at hand, by the table of the classes -/
namespace GW
open PySem PySem.Spec PyProof.Rows L2
section
variable {g : Gd} {X : Cx} {bl : List Str} {n k : Nat} {N : List Str} {sc : Scope} {T : Str → Str → Option Bool}
theorem exm_tab {xc cw : Str} {Cw : Addr} (TX : TabX g T) (h1 : T xc cw = some true) (h2 : T cw xc = some false) (h3 : T xc xc = some true) (hw : g.mg cw = some (.ref Cw)) (C : Addr) (hc : g.mg xc = some (.ref C)) : PySem.W.exmOne g.K (.ref C) (.ref Cw) = some true := by
  have q1 := (TX _ _ _ _ (.ref Cw) h1 hc (.inl ⟨hw, Cw, rfl⟩)).2
  obtain ⟨kw, q2⟩ := TX _ _ _ _ (.ref C) h2 hw (.inl ⟨hc, C, rfl⟩)
  have q3 := (TX _ _ _ _ (.ref C) h3 hc (.inl ⟨hc, C, rfl⟩)).2
  have ne : ((Value.ref C) == (Value.ref Cw)) = false := by
    cases e : ((Value.ref C) == (Value.ref Cw)) with
    | false => rfl
    | true =>
      have e : Value.ref C = Value.ref Cw := eq_of_beq e
      rw [e] at q3
      rw [e, q3] at q2
      cases q2
  unfold PySem.W.kitOne at q1
  rw [ne] at q1
  unfold PySem.W.exmOne
  rw [kw.hsub]
  exact q1
theorem IsEs.t {xc x y : Str} {C : Addr} {b : Bool} {p1 p2 p3 pos : Pos} {es : List Expr} {bs : List Bool} (hK : X.K = g.K) (hm : X.mg = g.mg) (hglob : ∀ x, sc.names.lookup x = some .globalImplicit → Gl X x) (TX : TabX g T) (hT : T xc y = some b) (hc : g.mg xc = some (.ref C)) (hy : ∃ Cc, g.mg y = some (.ref Cc)) (hg : gnB sc y = true) (r : IsEs X C x es bs) :
    IsEs X C x (.Call (.Name "isinstance" p1) [.Name x p2, .Name y p3] [] pos :: es) (b :: bs) := by
  obtain ⟨Cc, hy⟩ := hy
  exact .cons (cv := .ref Cc) (u := .ref Cc) ⟨.own Cc, fun pos => pe_glob (hglob _ (gnB_ok hg).1) (by rw [hm]; exact hy) rfl (gnB_ok hg).2⟩ (by rw [hK]; exact (TX _ _ _ _ _ hT hc (.inl ⟨hy, Cc, rfl⟩)).2) r
theorem fn_byT {P : Program} {w : World} {g : Gd} {base : Heap} {k : Nat} {x qual : Str} {params : Arguments} {body : List Stmt} {scope : Scope} {dvs : List V} {kws : List (Str × V)} {f : Addr} {fd : FuncData} {N ps bl : List Str} {fb : Ro → Mu → Rs Fl}
    (F : FunD g.K x qual params body scope dvs kws f fd) (S : FnScope N ps scope) (hbl : ∀ x ∈ bl, g.mg x = none) (hb : ∀ X : Cx, X.prog = P → X.w = w → X.base = base → Cxt g bl k N scope X → CxS X → CxT X → OkSs g X body fb) :
    FnOk P w g.K g.mg base (L2.CX P w) (k + 1) f fd ps (spF g ps.length fun ds μ => (fb (rho0 N.length ds) μ).fin) := by
  obtain ⟨oc, od, dV, kV, doc, pm, an, cdv, ct, osl, rfl, lk, hcd, hD, hK⟩ := F.ex
  exact fn_by lk hcd S fun A outer s H E hr => hb _ rfl rfl rfl ⟨rfl, rfl, rfl, rfl, rfl, hr, S.nd, hbl⟩ ⟨fun _ => rfl, passes_of rfl⟩ ⟨rfl, rfl⟩
/-- off + k -/
theorem el_add {off : Int} {xk : Str} {scope : Scope} {j : Nat} {pc pk bp : Pos} (k2 : nmB N (relS scope sc) 2 xk = true) (Y : Cx) (i : Int) (σ : St) (H : Hp) (Q : VK) (hN : Y.N = N) (hs : Y.env.scope = relS scope sc) (h : σ[2]? = some (some (.int i))) (q : Q (.int (off + i)) H) : RunE Y (.BinOp (.Constant (.int off) j pc) .Add (.Name xk pk) bp) σ H Q := by
  obtain ⟨n1, n2, n3, n4⟩ := nmB_ok k2
  exact .of (pe_add pe_int (pe_var (i := 2) (by rw [hN]; exact n1) (by rw [hs]; exact n2) n3 n4)) ⟨_, h, off, i, rfl, rfl, q⟩
theorem el_nm {xk : Str} {scope : Scope} {pk : Pos} (k2 : nmB N (relS scope sc) 2 xk = true) (Y : Cx) (i : Int) (σ : St) (H : Hp) (Q : VK) (hN : Y.N = N) (hs : Y.env.scope = relS scope sc) (h : σ[2]? = some (some (.int i))) (q : Q (.int (0 + i)) H) : RunE Y (.Name xk pk) σ H Q := by
  obtain ⟨n1, n2, n3, n4⟩ := nmB_ok k2
  exact .of (pe_var (i := 2) (by rw [hN]; exact n1) (by rw [hs]; exact n2) n3 n4) ⟨_, h, by rw [Int.zero_add] at q; exact q⟩
end
end GW
namespace GW
open PySem PySem.Spec PyProof.Rows L2
theorem namesX {g : Gd} {X : Cx} {bl : List Str} {n : Nat} {N : List Str} {sc : Scope} {x : Str} {Cw : Addr} (C : Cxt g bl n N sc X) (h : gnB sc x = true) (hw : g.mg x = some (.ref Cw)) : L2.Names X x (.ref Cw) := ⟨C.gl (gnB_ok h).1, (gnB_ok h).2, .inl (by rw [C.hm]; exact hw)⟩
end GW

set_option maxHeartbeats 2000000
/-! the dict's change and back, its end as it runs; kept things that are the very ones handed -/
namespace GW
open PySem PySem.Spec PyProof.Rows L2
section
variable {g : Gd} {X : Cx} {W : WX} {σ : St} {er : Er} {H : Hp} {ρ : Ro} {μ : Mu} {c : Nat} {av : Addr → Prop} {bl : List Str} {n : Nat} {N : List Str} {sc : Scope}
theorem very_dic2 {xd s xs ka : Str} {c0 c1 ex2 : Expr} {a4 : Stmt} {A0 rest : List Stmt} {f0 f1 : Ro → Mu → Rs Bool} {f2 : Ro → Mu → Rs D} {np kp vp pp p1 np3 ap3 kp3 cp3 p3 p2 px pos pos0 : Pos} {j j2 j3 : Nat} {Z : Ends} {a : Addr} {e : Nat} {i z : Int}
    (C : Cxt g bl n N sc X) (hd : nmB N sc 1 xd = true) (hk : ka ≠ s) (O0 : OkT g X c0 f0) (O1 : OkT g X c1 f1) (S : CxS X) (hw : nwB N sc 2 xs = true) (O2 : OkE g X ex2 f2) (O4 : ∀ (Z' : Ends) (er3 : Er) (H3 : Hp), RepEnv (g.at av) er3 μ.ec H3 [.val (.dic e [(.inr ka, .int i)]), .val (.dic e [(.inr ka, .int i)]), .val (.bl true)] [some (.ref a), some (.ref a), some (.bl true)] → HpOk (g.at av) er3 H3 μ → H3 a = some (.dK [(.inr ka, .int i)]) → (∀ H4 er4, Ext (g.at av) NoOw er3 μ.ec H3 er4 μ.ec H4 → HpOk (g.at av) er4 H4 μ → Z'.rt (.bl true) H4) → RunS X a4 Z' [some (.ref a), some (.ref a), some (.bl true)] H3) (tk : Takes X W) (P : HpOk (g.at av) er H μ) (r : RepD (g.at av) er μ.ec H NoOw (.ref a) (.dic e [(.inr ka, .int i)])) (hH : H a = some (.dK [(.inr ka, .int i)]))
    (k0 : f0 [.val (.dic e [(.inr ka, .int i)]), .val (.dic e [(.inr ka, .int i)]), .un] μ = .ok false [.val (.dic e [(.inr ka, .int i)]), .val (.dic e [(.inr ka, .int i)]), .un] μ)
    (k1 : f1 [.val (.dic e [(.inr ka, .int i)]), .val (.dic e [(.inr ka, .int i)]), .un] μ = .ok true [.val (.dic e [(.inr ka, .int i)]), .val (.dic e [(.inr ka, .int i)]), .un] μ)
    (k2 : f2 [.val (.dic e [(.inr ka, .int i), (.inr s, .int z)]), .val (.dic e [(.inr ka, .int i), (.inr s, .int z)]), .un] μ = .ok (.bl true) [.val (.dic e [(.inr ka, .int i), (.inr s, .int z)]), .val (.dic e [(.inr ka, .int i), (.inr s, .int z)]), .un] μ)
    (q : ∀ H' er', Ext (g.at av) NoOw er μ.ec H er' μ.ec H' → HpOk (g.at av) er' H' μ → Z.rt (.bl true) H')
    (hbase3 : attributeBase (.Name xd np3) "pop" X.env (eval (.Name xd np3) X.env) = eval (.Name xd np3) X.env := by rfl)
    (hfew : ((backTo cp3 (starEach [.Constant (.str s) j3 kp3] X.env)).all (fun x => !x.1) && (backToKw cp3 (keywordEach [] X.env)).all (fun x => x.1.isSome)
      && decide (([.Constant (.str s) j3 kp3] : List Expr).length + ([] : List Keyword).length + (if ([] : List Keyword).isEmpty then 0 else 1) < 30)) = true := by rfl)
    (hline3 : (ap3.endLine == cp3.line) = true := by rfl) (ht : backTo cp3 (starEach [.Constant (.str s) j3 kp3] X.env) = [(false, eval (.Constant (.str s) j3 kp3) X.env)] := by rfl) (hsw : swapsWith ex2 (some (.Name xs px)) p2.line X.env = pure false := by rfl) :
    RunSs X (.If c0 A0 [] pos0 :: .If c1 (.Assign [.Subscript (.Name xd np) (.Constant (.str s) j kp) pp] (.Constant (.int z) j2 vp) p1 :: .Assign [.Name xs px] ex2 p2 :: .Expr (.Call (.Attribute (.Name xd np3) "pop" ap3) [.Constant (.str s) j3 kp3] [] cp3) p3 :: [a4]) [] pos :: rest) Z [some (.ref a), some (.ref a), none] H := by
  have r0 := r
  cases r with
  | @dic _ _ vs _ h he hf nd rr =>
  have E0 : RepEnv (g.at av) er μ.ec H [.val (.dic e [(.inr ka, .int i)]), .val (.dic e [(.inr ka, .int i)]), .un] [some (.ref a), some (.ref a), none] := env_two r0 (fun d' z => by cases z) rfl
  refine .of (pss_cons (ps_if ptR pssR pss_nil) (pss_cons (ps_if ptR pssR pssR) pssR)) ?_
  refine O0 av W _ er H _ μ _ tk E0 P ?_
  rw [k0]
  intro H0 er0 n0
  have x0 : Ext (g.at av) NoOw er μ.ec H er0 μ.ec H0 := n0.x.mono fun x z => (noOw3 rfl z).elim
  refine iteF ?_
  refine O1 av W _ er0 H0 _ μ _ tk n0.env n0.hp ?_
  rw [k1]
  intro H1 er1 n1
  have x1 : Ext (g.at av) NoOw er μ.ec H er1 μ.ec H1 := x0.trans (n1.x.mono fun x z => (noOw3 rfl z).elim) fun x z => (z : False).elim
  have h1 : H1 a = some (.dK [(.inr ka, .int i)]) := x1.same a _ hH id hf.2.2.1 hf.2.2.2 rfl
  have he1 := he.ext x1 (rd_ne (.inl hH))
  refine iteT (.of (pss_cons psR (pss_cons psR (pss_cons psR (pss_one psR)))) ?_)
  have hk' : (Sum.inr ka : Key) ≠ Sum.inr s := fun z => hk (Sum.inr.inj z)
  have ep : putK [((.inr ka : Key), (V.int i))] (.inr s) (.int z) = [(.inr ka, .int i), (.inr s, .int z)] := by
    unfold putK
    rw [if_neg (by simp [hk'])]; rfl
  have ed : dropK [((.inr ka : Key), (V.int i)), (.inr s, .int z)] (.inr s) = [(.inr ka, .int i)] := by
    unfold dropK
    simp [hk']
  have ev : valV [((.inr ka : Key), (V.int i)), (.inr s, .int z)] (.inr s) = some (.int z) := by
    rw [valV_neg hk']; exact valV_pos rfl
  refine run_dput C hd rfl h1 (by rw [sizeLine_eq]; simp) ?_
  rw [ep]
  have P1 : HpOk (g.at av) er1 (upd H1 a (.dK [(.inr ka, .int i), (.inr s, .int z)])) μ := hp_upd n1.hp h1 hf.2.2.1 hf.2.2.2 (fun _ z => nomatch z) (fun _ z => nomatch z)
  have r1 : RepD (g.at av) er1 μ.ec (upd H1 a (.dK [(.inr ka, .int i), (.inr s, .int z)])) NoOw (.ref a) (.dic e [(.inr ka, .int i), (.inr s, .int z)]) :=
    .dic (.inl upd_same) he1 hf (by simpa using hk) (.cons (.int i) (.cons (.int z) .nil))
  have E1 := env_two (x := none) (sv := .un) r1 (fun d' z => by cases z) rfl
  refine .of (ps_set C.ndup (C.at (nwB_ok hw).1) (C.loc (nwB_ok hw).2) peR hsw (.inl (S.fn _))) ?_
  refine O2 av W _ er1 _ _ μ _ tk E1 P1 ?_
  rw [k2]
  intro v2 H2 er2 n2 rv2
  have x2 : Ext (g.at av) NoOw er1 μ.ec (upd H1 a (.dK [(.inr ka, .int i), (.inr s, .int z)])) er2 μ.ec H2 := n2.x.mono fun x z => (noOw3 rfl z).elim
  have h2 : H2 a = some (.dK [(.inr ka, .int i), (.inr s, .int z)]) := x2.same a _ upd_same id hf.2.2.1 hf.2.2.2 rfl
  have he2 := he1.ext x2 (rd_ne (.inl (upd_same)))
  obtain rfl : v2 = .bl true := by
    cases rv2 with
    | d q => cases q; rfl
  refine run_dpop C hd rfl h2 ev ?_ hbase3 hfew hline3 ht
  rw [ed]
  have x3 : Ext (g.at av) NoOw er μ.ec H er2 μ.ec (upd H2 a (.dK [(.inr ka, .int i)])) := ext_back x1 h1 (fun _ _ z => nomatch z) x2
  have P3 : HpOk (g.at av) er2 (upd H2 a (.dK [(.inr ka, .int i)])) μ := hp_upd n2.hp h2 hf.2.2.1 hf.2.2.2 (fun _ z => nomatch z) (fun _ z => nomatch z)
  have r3 : RepD (g.at av) er2 μ.ec (upd H2 a (.dK [(.inr ka, .int i)])) NoOw (.ref a) (.dic e [(.inr ka, .int i)]) :=
    .dic (.inl upd_same) he2 hf (by simp) (.cons (.int i) .nil)
  have E3 := env_two (x := some (.bl true)) (sv := .val (.bl true)) r3 (fun d' z => by cases z; exact ⟨_, rfl, .bl true⟩) rfl
  exact O4 _ er2 _ E3 P3 upd_same fun H4 er4 x4 P4 => q H4 er4 (x3.trans x4 fun x z => z.elim) P4
/-- return same and isinstance(found, dict) and found == due -/
theorem ret_dict {xf xd xs ka : Str} {ei : Expr} {fi : Ro → Mu → Rs D} {ps pf pd pb pc rp : Pos} {Z : Ends} {a : Addr} {e : Nat} {i : Int} {er3 : Er} {H3 : Hp}
    (C : Cxt g bl n N sc X) (h0 : nmB N sc 0 xf = true) (h1 : nmB N sc 1 xd = true) (h2 : nmB N sc 2 xs = true) (Oi : OkE g X ei fi) (tk : Takes X W)
    (ki : fi [.val (.dic e [(.inr ka, .int i)]), .val (.dic e [(.inr ka, .int i)]), .val (.bl true)] μ = .ok (.bl true) [.val (.dic e [(.inr ka, .int i)]), .val (.dic e [(.inr ka, .int i)]), .val (.bl true)] μ)
    (E3 : RepEnv (g.at av) er3 μ.ec H3 [.val (.dic e [(.inr ka, .int i)]), .val (.dic e [(.inr ka, .int i)]), .val (.bl true)] [some (.ref a), some (.ref a), some (.bl true)]) (P3 : HpOk (g.at av) er3 H3 μ) (hH : H3 a = some (.dK [(.inr ka, .int i)])) (hs : a ≠ g.sa ∧ a ≠ g.sb)
    (q : ∀ H4 er4, Ext (g.at av) NoOw er3 μ.ec H3 er4 μ.ec H4 → HpOk (g.at av) er4 H4 μ → Z.rt (.bl true) H4) :
    RunS X (.Return (some (.BoolOp .And [.Name xs ps, ei, .Compare (.Name xf pf) [.Eq] [.Name xd pd] pc] pb)) rp) Z [some (.ref a), some (.ref a), some (.bl true)] H3 := by
  obtain ⟨a1, a2, a3, a4⟩ := nmB_ok h0
  obtain ⟨b1, b2, b3, b4⟩ := nmB_ok h1
  obtain ⟨c1, c2, c3, c4⟩ := nmB_ok h2
  refine .of (ps_ret (pe_and (pe_var (i := 2) (C.at c1) (by rw [C.hsc]; exact c2) c3 c4) (pe_and peR (pe_one (pe_cmpR (op_eqV (by have := C.hu; omega)) (pe_var (i := 0) (C.at a1) (by rw [C.hsc]; exact a2) a3 a4) (pe_var (i := 1) (C.at b1) (by rw [C.hsc]; exact b2) b3 b4) (by rfl)))))) ?_
  refine ⟨_, rfl, true, rfl, ?_⟩
  refine Oi av W _ er3 H3 _ μ _ tk E3 P3 ?_
  rw [ki]
  intro v4 H4 er4 n4 rv4
  obtain rfl : v4 = .bl true := by
    cases rv4 with
    | d q => cases q; rfl
  have x4 : Ext (g.at av) NoOw er3 μ.ec H3 er4 μ.ec H4 := n4.x.mono fun x z => (noOw3 rfl z).elim
  have h4 : H4 a = some (.dK [(.inr ka, .int i)]) := x4.same a _ hH id hs.1 hs.2 rfl
  refine ⟨true, rfl, ?_⟩
  refine ⟨_, rfl, _, rfl, 1, by omega, .inr ⟨a, a, _, _, rfl, rfl, h4, h4, rfl, fun p hp => ?_⟩, q H4 er4 x4 n4.hp⟩
  obtain rfl : p = (.inr ka, .int i) := by simpa using hp
  exact ⟨.int i, valV_pos rfl, .inl ⟨rfl, rfl⟩⟩
theorem not_veryL {x ka y1 y2 : Str} {i j : Nat} {v : V} {d : D} {p p1 p2 cp up : Pos} {Q : Bool → Hp → Prop} (C : Cxt g bl n N sc X) (FV : FunV g X n x ka) (hg : gnB sc x = true) (h1 : nmB N sc i y1 = true) (h2 : nmB N sc j y2 = true) (tk : Takes X W) (E : RepEnv (g.at av) er μ.ec H ρ σ) (P : HpOk (g.at av) er H μ)
    (e1 : ρ[i]? = some (.val (ofV v)) ∨ ρ[i]? = some (.val (.lab v d))) (e2 : ρ[j]? = some (.val (.lab v d))) (ho : objD ka d = true) (hu : ∀ e kvs, d = .dic e kvs → ∀ a o u, v = .ref a → H a ≠ some (.frz o u)) (q : ∀ H' er', Nx (g.at av) σ er H ρ μ er' H' ρ μ → Q false H')
    (he : starEach [.Name y1 p1, .Name y2 p2] X.env = (false, eval (.Name y1 p1) X.env) :: starEach [.Name y2 p2] X.env := by rfl) (he2 : starEach [.Name y2 p2] X.env = (false, eval (.Name y2 p2) X.env) :: starEach [] X.env := by rfl) (hpl : (backTo cp (starEach [.Name y2 p2] X.env)).any (·.1) = false := by rfl) :
    RunT X (.UnaryOp .Not (.Call (.Name x p) [.Name y1 p1, .Name y2 p2] [] cp) up) σ H Q := by
  obtain ⟨f, fd, ps, Fk, hm, kp, hb⟩ := FV.ex
  obtain ⟨a1, a2, a3, a4⟩ := nmB_ok h1
  obtain ⟨b1, b2, b3, b4⟩ := nmB_ok h2
  refine .of (pt_not (pt_val (pe_callS Fk C.room (C.gl (gnB_ok hg).1) hm kp hb (E := WE W) (passAt tk) (pa_cons (pe_var (i := i) (C.at a1) (by rw [C.hsc]; exact a2) a3 a4) (pa_cons (pe_var (i := j) (C.at b1) (by rw [C.hsc]; exact b2) b3 b4) pa_nil he2) he) (gnB_ok hg).2 he hpl) (fun _ => rfl))) ?_
  obtain ⟨v1, s1, hv1⟩ : ∃ v1, σ[i]? = some (some v1) ∧ v1 = v := by
    rcases e1 with e1 | e1
    · obtain ⟨v1, s1, r1⟩ := E.val i _ e1
      have z := dat_rep r1 (by cases v <;> rfl)
      have : toV1 (ofV v) = some v := by cases v <;> rfl
      exact ⟨v1, s1, toV1_rep z this⟩
    · obtain ⟨v1, s1, r1⟩ := E.val i _ e1
      have z := dat_rep r1 rfl
      cases z with
      | lab r3 => exact ⟨_, s1, rfl⟩
  obtain ⟨v2, s2, r2⟩ := E.val j _ e2
  subst hv1
  have r2' := dat_rep r2 rfl
  cases r2' with
  | lab r3 =>
    refine ⟨v1, s1, v1, s2, avC av ρ σ [], er, μ, v1, d, rfl, avC_hp E P, RepD.cv (g := g.at av) (av' := avC av ρ σ []) (free_C (ds := [])) r3, ho, hu, fun H' er' x1 P1 => ⟨true, rfl, ?_⟩⟩
    exact q H' er' (nx_call E P x1 P1)
/-- if not very(..) or not very(..): leave -/
theorem OkAS.veryL {x ka y1 y2 y3 y4 : Str} {i1 i2 i3 i4 : Nat} {A : List Stmt} {p p1 p2 cp up p' p1' p2' cp' up' bp pos : Pos} (C : Cxt g bl n N sc X) (FV : FunV g X n x ka) (hg : gnB sc x = true) (h1 : nmB N sc i1 y1 = true) (h2 : nmB N sc i2 y2 = true) (h3 : nmB N sc i3 y3 = true) (h4 : nmB N sc i4 y4 = true)
    (he : starEach [.Name y1 p1, .Name y2 p2] X.env = (false, eval (.Name y1 p1) X.env) :: starEach [.Name y2 p2] X.env := by rfl) (he2 : starEach [.Name y2 p2] X.env = (false, eval (.Name y2 p2) X.env) :: starEach [] X.env := by rfl) (hpl : (backTo cp (starEach [.Name y2 p2] X.env)).any (·.1) = false := by rfl)
    (he' : starEach [.Name y3 p1', .Name y4 p2'] X.env = (false, eval (.Name y3 p1') X.env) :: starEach [.Name y4 p2'] X.env := by rfl) (he2' : starEach [.Name y4 p2'] X.env = (false, eval (.Name y4 p2') X.env) :: starEach [] X.env := by rfl) (hpl' : (backTo cp' (starEach [.Name y4 p2'] X.env)).any (·.1) = false := by rfl) (r : Nat → Ro → Mu → Rs Fl)
    (hx : ∀ k ρ μ x fs ρ' μ', r k ρ μ ≠ .ex x fs ρ' μ')
    (hr : ∀ k ρ μ o ρ' μ', r k ρ μ = .ok o ρ' μ' → o = .nx ∧ μ' = μ ∧ Fgt ρ ρ' ∧ ∃ v w d d', (ρ[i1]? = some (.val (ofV v)) ∨ ρ[i1]? = some (.val (.lab v d))) ∧ ρ[i2]? = some (.val (.lab v d)) ∧ (ρ[i3]? = some (.val (ofV w)) ∨ ρ[i3]? = some (.val (.lab w d'))) ∧ ρ[i4]? = some (.val (.lab w d')) ∧ objD ka d = true ∧ objD ka d' = true ∧ newD k d = true ∧ newD k d' = true) :
    OkAS g X [.If (.BoolOp .Or [.UnaryOp .Not (.Call (.Name x p) [.Name y1 p1, .Name y2 p2] [] cp) up, .UnaryOp .Not (.Call (.Name x p') [.Name y3 p1', .Name y4 p2'] [] cp') up'] bp) A [] pos] r := by
  intro av W σ0 er0 H0 ρ0 μ0 σ er H ρ μ Z tk m h
  cases e : r μ0.ec ρ μ with
  | no => rw [e] at h; exact h.elim
  | ex x fs ρ' μ' => exact absurd e (hx _ _ _ _ _ _ _)
  | ok o ρ' μ' =>
    obtain ⟨rfl, rfl, hf, v, w, d, d', e1, e2, e3, e4, o1, o2, n1, n2⟩ := hr _ _ _ _ _ _ e
    rw [e] at h
    have h : ∀ σ' H' er', NxS (g.at av) σ0 er0 H0 ρ0 μ0 σ' er' H' ρ' μ' → Z.nx σ' H' := h
    have unf : ∀ {er1 : Er} {H1 : Hp} {j : Nat} {u : V} {t : D}, NxS (g.at av) σ0 er0 H0 ρ0 μ0 σ er1 H1 ρ μ' → ρ[j]? = some (.val (.lab u t)) → newD μ0.ec t = true → ∀ e kvs, t = .dic e kvs → ∀ a o z, u = .ref a → H1 a ≠ some (.frz o z) := fun {er1 H1 j u t} m1 ej nj e kvs et a o z ea => by
      subst et
      obtain ⟨u', s, r⟩ := m1.env.val j _ ej
      have r := dat_rep r rfl
      cases r with
      | lab r =>
        subst ea
        cases r with
        | dic hq he hfr nd rr => exact nf_of m1 a _ (new_dic' nj).1.1 he.1 he.2.1 o z
    refine .of (pss_one (ps_if ((pw_or (ptR) (pw_or1 (ptR))).pt) pssR pss_nil)) ?_
    refine not_veryL (av := av) (W := W) C FV hg h1 h2 tk m.env m.hp e1 e2 o1 (unf m e2 n1) (fun H1 er1 nx1 => ?_) he he2 hpl
    have m1 := m.trans nx1.s
    refine iteF ?_
    refine not_veryL (av := av) (W := W) C FV hg h3 h4 tk m1.env m1.hp e3 e4 o2 (unf m1 e4 n2) (fun H2 er2 nx2 => ?_) he' he2' hpl'
    exact iteF (h σ H2 er2 (hf.nxs (m1.trans nx2.s)))
end
end GW

set_option maxHeartbeats 0
namespace GL
open PySem PySem.Spec PyProof.Rows L2 GW
abbrev Fs := Nat → List D → Mu → Rf
structure Calls (g : Gd) (X : Cx) (n : Nat) (F : Fs) : Prop where
  f50 : Fun g X n "_law_start" 1 (F 50)
  f51 : Fun g X n "_law_pick" 2 (F 51)
  f52 : Fun g X n "_law_between" 3 (F 52)
  f53 : Fun g X n "_law_same" 2 (F 53)
  f54 : Fun g X n "_law_kinds_of" 1 (F 54)
  f55 : Fun g X n "_law_others" 1 (F 55)
  f56 : Fun g X n "_law_is_other" 1 (F 56)
  f57 : Fun g X n "_law_made_a" 2 (F 57)
  f58 : Fun g X n "_law_made_b" 2 (F 58)
  f59 : Fun g X n "_law_made_at" 2 (F 59)
  f60 : Fun g X n "_law_object" 1 (F 60)
  f61 : Fun g X n "_law_very" 2 (F 61)
  f62 : Fun g X n "_law_caught" 1 (F 62)
structure Errs (g : Gd) (X : Cx) : Prop where
  m_WorldError : ∃ Cc, g.mg "WorldError" = some (.ref Cc)
  m_BadEdit : ∃ Cc, g.mg "BadEdit" = some (.ref Cc)
  m_BadDeskText : ∃ Cc, g.mg "BadDeskText" = some (.ref Cc)
  m_BadPrices : ∃ Cc, g.mg "BadPrices" = some (.ref Cc)
  m_BadWishes : ∃ Cc, g.mg "BadWishes" = some (.ref Cc)
  m_BadLevels : ∃ Cc, g.mg "BadLevels" = some (.ref Cc)
  m_NotStraight : ∃ Cc, g.mg "NotStraight" = some (.ref Cc)
  m_BadOther : ∃ Cc, g.mg "BadOther" = some (.ref Cc)
  m_BadProof : ∃ Cc, g.mg "BadProof" = some (.ref Cc)
  m_BadPath : ∃ Cc, g.mg "BadPath" = some (.ref Cc)
  m_BadFormulas : ∃ Cc, g.mg "BadFormulas" = some (.ref Cc)
  m_BadTerm : ∃ Cc, g.mg "BadTerm" = some (.ref Cc)
  m_BadMore : ∃ Cc, g.mg "BadMore" = some (.ref Cc)
  m_BadTheirs : ∃ Cc, g.mg "BadTheirs" = some (.ref Cc)
  m_BadAnswer : ∃ Cc, g.mg "BadAnswer" = some (.ref Cc)
  m_BadAsks : ∃ Cc, g.mg "BadAsks" = some (.ref Cc)
  m_NotApart : ∃ Cc, g.mg "NotApart" = some (.ref Cc)
  m_BadStrategy : ∃ Cc, g.mg "BadStrategy" = some (.ref Cc)
  m_BadDesk : ∃ Cc, g.mg "BadDesk" = some (.ref Cc)
  m_NothingToUndo : ∃ Cc, g.mg "NothingToUndo" = some (.ref Cc)
  m_NothingToRedo : ∃ Cc, g.mg "NothingToRedo" = some (.ref Cc)
  m_BadWholeText : ∃ Cc, g.mg "BadWholeText" = some (.ref Cc)
  m_BadFormula : ∃ Cc, g.mg "BadFormula" = some (.ref Cc)
  m_BadGoal : ∃ Cc, g.mg "BadGoal" = some (.ref Cc)
  m_BadHeap : ∃ Cc, g.mg "BadHeap" = some (.ref Cc)
  m_BadWorld : ∃ Cc, g.mg "BadWorld" = some (.ref Cc)
  m_BadPlace : ∃ Cc, g.mg "BadPlace" = some (.ref Cc)
  m_BadPart : ∃ Cc, g.mg "BadPart" = some (.ref Cc)
  m_BadFormulaText : ∃ Cc, g.mg "BadFormulaText" = some (.ref Cc)
  m_BadHeapText : ∃ Cc, g.mg "BadHeapText" = some (.ref Cc)
  m_BadWorldText : ∃ Cc, g.mg "BadWorldText" = some (.ref Cc)
  m_BadSome : ∃ Cc, g.mg "BadSome" = some (.ref Cc)
  m_BadOthers : ∃ Cc, g.mg "BadOthers" = some (.ref Cc)
  m_BadSets : ∃ Cc, g.mg "BadSets" = some (.ref Cc)
  m_BadWord : ∃ Cc, g.mg "BadWord" = some (.ref Cc)
  m_BadNumber : ∃ Cc, g.mg "BadNumber" = some (.ref Cc)
  m_BadTold : ∃ Cc, g.mg "BadTold" = some (.ref Cc)
  m_BadWords : ∃ Cc, g.mg "BadWords" = some (.ref Cc)
  m_BadWorlds : ∃ Cc, g.mg "BadWorlds" = some (.ref Cc)
  m_BadMany : ∃ Cc, g.mg "BadMany" = some (.ref Cc)
  m_BadHeight : ∃ Cc, g.mg "BadHeight" = some (.ref Cc)
  m_BadFull : ∃ Cc, g.mg "BadFull" = some (.ref Cc)
  m_TwoAlike : ∃ Cc, g.mg "TwoAlike" = some (.ref Cc)
  m_BadWeave : ∃ Cc, g.mg "BadWeave" = some (.ref Cc)
  m_BadName : ∃ Cc, g.mg "BadName" = some (.ref Cc)
  m_NotClearing : ∃ Cc, g.mg "NotClearing" = some (.ref Cc)
  z_WorldError : Exc0 g X "WorldError"
  x_BadOther : ExcV g X "BadOther" "other"
  x_BadProof : ExcV g X "BadProof" "proof"
  x_BadPath : ExcV g X "BadPath" "path"
  x_BadFormulas : ExcV g X "BadFormulas" "index"
  x_BadTerm : ExcV g X "BadTerm" "term"
  x_BadMore : ExcV g X "BadMore" "more"
  x_BadTheirs : ExcV g X "BadTheirs" "index"
  x_BadAnswer : ExcV g X "BadAnswer" "answer"
  x_BadWholeText : ExcV g X "BadWholeText" "line"
  x_BadPrices : ExcV g X "BadPrices" "prices"
  x_BadWishes : ExcV g X "BadWishes" "index"
  x_BadLevels : ExcV g X "BadLevels" "levels"
  x_NotStraight : ExcV g X "NotStraight" "index"
  x_BadAsks : ExcV g X "BadAsks" "index"
  x_NotApart : ExcV g X "NotApart" "index"
  x_BadStrategy : ExcV g X "BadStrategy" "strategy"
  x_BadEdit : ExcV g X "BadEdit" "edit"
  x_BadDesk : ExcV g X "BadDesk" "desk"
  x_BadDeskText : ExcV g X "BadDeskText" "line"
  z_NothingToUndo : Exc0 g X "NothingToUndo"
  z_NothingToRedo : Exc0 g X "NothingToRedo"
  x_BadFormula : ExcV g X "BadFormula" "formula"
  x_BadGoal : ExcV g X "BadGoal" "goal"
  x_BadHeap : ExcV g X "BadHeap" "index"
  x_BadWorld : ExcV g X "BadWorld" "world"
  x_BadPlace : ExcV g X "BadPlace" "place"
  x_BadPart : ExcV g X "BadPart" "part"
  x_BadFormulaText : ExcV g X "BadFormulaText" "place"
  x_BadHeapText : ExcV g X "BadHeapText" "line"
  x_BadWorldText : ExcV g X "BadWorldText" "line"
  x_BadSome : ExcV g X "BadSome" "some"
  x_BadOthers : ExcV g X "BadOthers" "others"
  x_BadSets : ExcV g X "BadSets" "sets"
  x_BadWord : ExcV g X "BadWord" "word"
  x_BadNumber : ExcV g X "BadNumber" "number"
  x_BadTold : ExcV g X "BadTold" "told"
  x_BadWords : ExcV g X "BadWords" "index"
  x_BadWorlds : ExcV g X "BadWorlds" "index"
  x_BadMany : ExcV g X "BadMany" "many"
  x_BadHeight : ExcV g X "BadHeight" "height"
  x_BadFull : ExcV g X "BadFull" "full"
  x_TwoAlike : ExcV g X "TwoAlike" "other"
  x_BadWeave : ExcV g X "BadWeave" "weave"
  x_BadName : ExcV g X "BadName" "name"
  x_NotClearing : ExcV g X "NotClearing" "place"
  f_other : FldX g "other" ["BadOther", "TwoAlike"]
  f_proof : FldX g "proof" ["BadProof"]
  f_path : FldX g "path" ["BadPath"]
  f_index : FldX g "index" ["BadFormulas", "BadTheirs", "BadWishes", "NotStraight", "BadAsks", "NotApart", "BadHeap", "BadWords", "BadWorlds"]
  f_term : FldX g "term" ["BadTerm"]
  f_more : FldX g "more" ["BadMore"]
  f_answer : FldX g "answer" ["BadAnswer"]
  f_line : FldX g "line" ["BadWholeText", "BadDeskText", "BadHeapText", "BadWorldText"]
  f_prices : FldX g "prices" ["BadPrices"]
  f_levels : FldX g "levels" ["BadLevels"]
  f_strategy : FldX g "strategy" ["BadStrategy"]
  f_edit : FldX g "edit" ["BadEdit"]
  f_desk : FldX g "desk" ["BadDesk"]
  f_formula : FldX g "formula" ["BadFormula"]
  f_goal : FldX g "goal" ["BadGoal"]
  f_world : FldX g "world" ["BadWorld"]
  f_place : FldX g "place" ["BadPlace", "BadFormulaText", "NotClearing"]
  f_part : FldX g "part" ["BadPart"]
  f_some : FldX g "some" ["BadSome"]
  f_others : FldX g "others" ["BadOthers"]
  f_sets : FldX g "sets" ["BadSets"]
  f_word : FldX g "word" ["BadWord"]
  f_number : FldX g "number" ["BadNumber"]
  f_told : FldX g "told" ["BadTold"]
  f_many : FldX g "many" ["BadMany"]
  f_height : FldX g "height" ["BadHeight"]
  f_full : FldX g "full" ["BadFull"]
  f_weave : FldX g "weave" ["BadWeave"]
  f_name : FldX g "name" ["BadName"]
  t : TabX g GH.T
  k : ∀ {y : Str} (x : Str) (b : Bool), GH.T x y = some b → ∀ C, g.mg x = some (.ref C) → KitC g.K C
section
variable {g : Gd} {X : Cx} {n : Nat} {F : Fs}
/- _law_start -/
def N50 : List Str := (["script"] : List String).map Str.ofString
def b50 (F : Fs) : Ro → Mu → Rs Fl := sCons (sRet (evN (dispL (aCons (evN (evCN kList (aCons (evVar 0) (aNil)))) (aCons (evK (.int 0)) (aCons (evK (.int 0)) (aCons (evK (.int 29)) (aNil))))))))
  (sNil)
theorem ok50 (C : Cxt g GH.bls n N50 (defScope (GH.top 50)) X) (S : CxS X) (hn : 2 ≤ n) (A : Calls g X n F) (Z : Errs g X) : OkSs g X (defBody (GH.top 50)) (b50 F) :=
  OkSs.cons (OkS.ret (OkN.e (OkN.lst (OkA.cons (OkN.e (OkN.list_ C (by kernel_rfl) (OkA.cons (OkE.nm C (by kernel_rfl)) (OkA.nil)))) (OkA.cons (OkE.int) (OkA.cons (OkE.int) (OkA.cons (OkE.int) (OkA.nil))))))))
  (OkSs.nil)
/- _law_pick -/
def N51 : List Str := (["state", "many", "mixed", "cell", "digit"] : List String).map Str.ofString
def b51 (F : Fs) : Ro → Mu → Rs Fl := sCons (sStS 0 2 (ev2 (fun c x y => opBin c .Add x y) (evStG 0 2) (evK (.int 1))))
  (sCons (whR (boT .And (toT (ev2 (cmpK .Eq) (evStG 0 1) (evK (.int 0)))) (evStN 0)) (sCons (sSet 3 (evC kAbs (aCons (evStP 0) (aNil))))
  (sCons (sStS 0 3 (ev2 (fun c x y => opBin c .Mod x y) (evC kInt (aCons (ev2 (fun c x y => opBin c .Add x y) (ev2 (fun c x y => opBin c .Add x y) (ev2 (fun c x y => opBin c .Mult x y) (evStG 0 3) (evK (.int 6151))) (evVar 3)) (evK (.int 5))) (aNil))) (evK (.int 2147483647))))
  (sCons (sStS 0 1 (evIte (toT (ev2 (cmpK .GtE) (evVar 3) (ev2 (fun c x y => opBin c .Pow x y) (evK (.int 10)) (evK (.int 18))))) (evVar 3) (evK (.int 0))))
  (sNil)))) 70)
  (sCons (sIf (toT (ev2 (cmpK .Gt) (evStG 0 1) (evK (.int 0)))) (sCons (sSet 4 (ev2 (fun c x y => opBin c .Mod x y) (evC kInt (aCons (evStG 0 1) (aNil))) (evVar 1)))
  (sCons (sStS 0 1 (ev2 (fun c x y => opBin c .FloorDiv x y) (evStG 0 1) (evVar 1)))
  (sCons (sRet (evVar 4))
  (sNil)))) (sNil))
  (sCons (sSet 2 (ev2 (fun c x y => opBin c .Mod x y) (evC kInt (aCons (ev2 (fun c x y => opBin c .Pow x y) (ev2 (fun c x y => opBin c .Add x y) (ev2 (fun c x y => opBin c .Add x y) (evStG 0 3) (ev2 (fun c x y => opBin c .Mult x y) (evK (.int 7907)) (evStG 0 2))) (evK (.int 104723))) (evK (.int 5))) (aNil))) (evK (.int 2147483629))))
  (sCons (sRet (ev2 (fun c x y => opBin c .Mod x y) (ev2 (fun c x y => opBin c .Mod x y) (evC kInt (aCons (ev2 (fun c x y => opBin c .Pow x y) (ev2 (fun c x y => opBin c .Add x y) (ev2 (fun c x y => opBin c .Add x y) (ev2 (fun c x y => opBin c .Mult x y) (evVar 2) (evK (.int 48271))) (ev2 (fun c x y => opBin c .Mult x y) (evK (.int 30011)) (evStG 0 2))) (evK (.int 31))) (evK (.int 3))) (aNil))) (evK (.int 1000000007))) (evVar 1)))
  (sNil)))))
theorem ok51 (C : Cxt g GH.bls n N51 (defScope (GH.top 51)) X) (S : CxS X) (hn : 2 ≤ n) (A : Calls g X n F) (Z : Errs g X) : OkSs g X (defBody (GH.top 51)) (b51 F) :=
  OkSs.cons (OkS.sts C (by kernel_rfl) (OkE.bin C.hK (OkE.stg C (by kernel_rfl)) (OkE.int)))
  (OkSs.cons (OkS.while (k := 70) S (OkW.t (OkW.cons (OkT.cmp C (OkE.stg C (by kernel_rfl)) (OkE.int) (by rfl)) (OkW.one (OkT.stn C (by kernel_rfl))))) (OkSs.cons (OkS.to C S (by kernel_rfl) (OkE.abs C (by kernel_rfl) (OkA.cons (OkE.stp C (by kernel_rfl)) (OkA.nil))))
  (OkSs.cons (OkS.sts C (by kernel_rfl) (OkE.bin C.hK (OkE.int_ C (by kernel_rfl) (OkA.cons (OkE.bin C.hK (OkE.bin C.hK (OkE.bin C.hK (OkE.stg C (by kernel_rfl)) (OkE.int)) (OkE.nm C (by kernel_rfl))) (OkE.int)) (OkA.nil))) (OkE.int)))
  (OkSs.cons (OkS.sts C (by kernel_rfl) (OkE.ite (OkT.cmp C (OkE.nm C (by kernel_rfl)) (OkE.bin C.hK (OkE.int) (OkE.int)) (by rfl)) (OkE.nm C (by kernel_rfl)) (OkE.int)))
  (OkSs.nil)))))
  (OkSs.cons (OkS.if (OkT.cmp C (OkE.stg C (by kernel_rfl)) (OkE.int) (by rfl)) (OkSs.cons (OkS.to C S (by kernel_rfl) (OkE.bin C.hK (OkE.int_ C (by kernel_rfl) (OkA.cons (OkE.stg C (by kernel_rfl)) (OkA.nil))) (OkE.nm C (by kernel_rfl))))
  (OkSs.cons (OkS.sts C (by kernel_rfl) (OkE.bin C.hK (OkE.stg C (by kernel_rfl)) (OkE.nm C (by kernel_rfl))))
  (OkSs.cons (OkS.ret (OkE.nm C (by kernel_rfl)))
  (OkSs.nil)))) (OkSs.nil))
  (OkSs.cons (OkS.to C S (by kernel_rfl) (OkE.bin C.hK (OkE.int_ C (by kernel_rfl) (OkA.cons (OkE.bin C.hK (OkE.bin C.hK (OkE.bin C.hK (OkE.stg C (by kernel_rfl)) (OkE.bin C.hK (OkE.int) (OkE.stg C (by kernel_rfl)))) (OkE.int)) (OkE.int)) (OkA.nil))) (OkE.int)))
  (OkSs.cons (OkS.ret (OkE.bin C.hK (OkE.bin C.hK (OkE.int_ C (by kernel_rfl) (OkA.cons (OkE.bin C.hK (OkE.bin C.hK (OkE.bin C.hK (OkE.bin C.hK (OkE.nm C (by kernel_rfl)) (OkE.int)) (OkE.bin C.hK (OkE.int) (OkE.stg C (by kernel_rfl)))) (OkE.int)) (OkE.int)) (OkA.nil))) (OkE.int)) (OkE.nm C (by kernel_rfl))))
  (OkSs.nil)))))
/- _law_between -/
def N52 : List Str := (["state", "low", "high"] : List String).map Str.ofString
def b52 (F : Fs) : Ro → Mu → Rs Fl := sCons (sRet (ev2 (fun c x y => opBin c .Add x y) (evVar 1) (evCall 2 (F 51) (aCons (evVar 0) (aCons (ev2 (fun c x y => opBin c .Add x y) (evC kMax (aCons (ev2 (fun c x y => opBin c .Sub x y) (evVar 2) (evVar 1)) (aCons (evK (.int 0)) (aNil)))) (evK (.int 1))) (aNil))))))
  (sNil)
theorem ok52 (C : Cxt g GH.bls n N52 (defScope (GH.top 52)) X) (S : CxS X) (hn : 2 ≤ n) (A : Calls g X n F) (Z : Errs g X) : OkSs g X (defBody (GH.top 52)) (b52 F) :=
  OkSs.cons (OkS.ret (OkE.bin C.hK (OkE.nm C (by kernel_rfl)) (OkE.fun C A.f51 (by kernel_rfl) (OkA.cons (OkE.nm C (by kernel_rfl)) (OkA.cons (OkE.bin C.hK (OkE.max_ C (by kernel_rfl) (OkA.cons (OkE.bin C.hK (OkE.nm C (by kernel_rfl)) (OkE.nm C (by kernel_rfl))) (OkA.cons (OkE.int) (OkA.nil)))) (OkE.int)) (OkA.nil))))))
  (OkSs.nil)
/- _law_same -/
def N53 : List Str := (["found", "due", "key", "mine", "theirs"] : List String).map Str.ofString
def b53 (F : Fs) : Ro → Mu → Rs Fl := sCons (sIf (toT (evIsis ["list", "tuple"] (evVar 1))) (sCons (sIf (boT .Or (toT (ev2 (cmpK .NotEq) (evIsi "list" (evVar 0)) (evIsi "list" (evVar 1)))) (toT (ev2 (cmpK .NotEq) (evIsi "tuple" (evVar 0)) (evIsi "tuple" (evVar 1))))) (sCons (sRet (evK (.bl false)))
  (sNil)) (sNil))
  (sCons (sRet (boV .And (ev2 (cmpK .Eq) (evC kLen (aCons (evVar 0) (aNil))) (evC kLen (aCons (evVar 1) (aNil)))) (evC kAll (aCons (evN (evLc (evZip (aCons (evVar 0) (aCons (evVar 1) (aNil)))) (tUn [3, 4]) (evYes) (evCall 2 (F 53) (aCons (evVar 3) (aCons (evVar 4) (aNil)))) [3, 4])) (aNil)))))
  (sNil))) (sNil))
  (sCons (sIf (toT (evIsi "dict" (evVar 1))) (sCons (sIf (boT .Or (notT (toT (evIsi "dict" (evVar 0)))) (notT (toT (evCall 2 (F 53) (aCons (evN (evCN kList (aCons (evVar 0) (aNil)))) (aCons (evN (evCN kList (aCons (evVar 1) (aNil)))) (aNil))))))) (sCons (sRet (evK (.bl false)))
  (sNil)) (sNil))
  (sCons (sRet (evC kAll (aCons (evN (evLc (evK1 1) (tNm 2) (evYes) (evCall 2 (F 53) (aCons (ev2 (fun _ x y => opIx x y) (evVar 0) (evVar 2)) (aCons (ev2 (fun _ x y => opIx x y) (evVar 1) (evVar 2)) (aNil)))) [2])) (aNil))))
  (sNil))) (sNil))
  (sCons (sIf (toT (ev2 (cmpK .Is) (evVar 1) (evK .non))) (sCons (sRet (ev2 (cmpK .Is) (evVar 0) (evK .non)))
  (sNil)) (sNil))
  (sCons (sIf (toT (evIsi "bool" (evVar 1))) (sCons (sRet (boV .And (evIsi "bool" (evVar 0)) (ev2 (cmpK .Eq) (evVar 0) (evVar 1))))
  (sNil)) (sNil))
  (sCons (sIf (toT (evIsi "int" (evVar 1))) (sCons (sRet (boV .And (evIsi "int" (evVar 0)) (boV .And (toV (notT (toT (evIsi "bool" (evVar 0))))) (ev2 (cmpK .Eq) (evVar 0) (evVar 1)))))
  (sNil)) (sNil))
  (sCons (sRet (boV .And (evIsi "str" (evVar 0)) (ev2 (cmpK .Eq) (evVar 0) (evVar 1))))
  (sNil))))))
theorem ok53 (C : Cxt g GH.bls n N53 (defScope (GH.top 53)) X) (S : CxS X) (hn : 2 ≤ n) (A : Calls g X n F) (Z : Errs g X) : OkSs g X (defBody (GH.top 53)) (b53 F) :=
  OkSs.cons (OkS.if (OkT.val C.hK (OkE.isTs C (by kernel_rfl) (TyNms.c "list" C (by kernel_rfl) (by kernel_rfl) (by decide +kernel) (by decide +kernel) (by decide +kernel) (TyNms.c "tuple" C (by kernel_rfl) (by kernel_rfl) (by decide +kernel) (by decide +kernel) (by decide +kernel) .nil)) (by decide) (OkE.nm C (by kernel_rfl))) (fun _ => by rfl)) (OkSs.cons (OkS.if (OkW.t (OkW.cons (OkT.cmp C (OkE.isT "list" C (by kernel_rfl) (by kernel_rfl) (by kernel_rfl) (by decide +kernel) (by decide +kernel) (by decide +kernel) (OkE.nm C (by kernel_rfl))) (OkE.isT "list" C (by kernel_rfl) (by kernel_rfl) (by kernel_rfl) (by decide +kernel) (by decide +kernel) (by decide +kernel) (OkE.nm C (by kernel_rfl))) (by rfl)) (OkW.one (OkT.cmp C (OkE.isT "tuple" C (by kernel_rfl) (by kernel_rfl) (by kernel_rfl) (by decide +kernel) (by decide +kernel) (by decide +kernel) (OkE.nm C (by kernel_rfl))) (OkE.isT "tuple" C (by kernel_rfl) (by kernel_rfl) (by kernel_rfl) (by decide +kernel) (by decide +kernel) (by decide +kernel) (OkE.nm C (by kernel_rfl))) (by rfl))))) (OkSs.cons (OkS.ret (OkE.bool))
  (OkSs.nil)) (OkSs.nil))
  (OkSs.cons (OkS.ret (OkE.bo C.hK (OkE.cmp C (OkE.len C (by kernel_rfl) (OkA.cons (OkE.nm C (by kernel_rfl)) (OkA.nil))) (OkE.len C (by kernel_rfl) (OkA.cons (OkE.nm C (by kernel_rfl)) (OkA.nil))) (by rfl)) (OkE.bo1 (OkE.all_ C (by kernel_rfl) (OkA.cons (OkN.e (OkN.lcn [("mine", 3), ("theirs", 4)] C (by kernel_rfl) (OkI.zp C (by kernel_rfl) (OkA.cons (OkE.nm C (by kernel_rfl)) (OkA.cons (OkE.nm C (by kernel_rfl)) (OkA.nil)))) ⟨fun _ _ _ _ _ => OkG.tup C.blk (.cons (by rfl) (.inl (by kernel_rfl)) (.inr (by kernel_rfl)) (.cons (by rfl) (.inl (by kernel_rfl)) (.inr (by kernel_rfl)) .nil)), fun _ _ _ _ _ => OkTs.nil, fun _ _ _ _ _ => OkE.fun C.blk A.f53.blk (by kernel_rfl) (OkA.cons (OkE.nm C.blk (by kernel_rfl)) (OkA.cons (OkE.nm C.blk (by kernel_rfl)) (OkA.nil))), by decide⟩)) (OkA.nil))))))
  (OkSs.nil))) (OkSs.nil))
  (OkSs.cons (OkS.if (OkT.val C.hK (OkE.isT "dict" C (by kernel_rfl) (by kernel_rfl) (by kernel_rfl) (by decide +kernel) (by decide +kernel) (by decide +kernel) (OkE.nm C (by kernel_rfl))) (fun _ => by rfl)) (OkSs.cons (OkS.if (OkW.t (OkW.cons (OkT.not (OkT.val C.hK (OkE.isT "dict" C (by kernel_rfl) (by kernel_rfl) (by kernel_rfl) (by decide +kernel) (by decide +kernel) (by decide +kernel) (OkE.nm C (by kernel_rfl))) (fun _ => by rfl))) (OkW.one (OkT.not (OkT.val C.hK (OkE.fun C A.f53 (by kernel_rfl) (OkA.cons (OkN.e (OkN.list_ C (by kernel_rfl) (OkA.cons (OkE.nm C (by kernel_rfl)) (OkA.nil)))) (OkA.cons (OkN.e (OkN.list_ C (by kernel_rfl) (OkA.cons (OkE.nm C (by kernel_rfl)) (OkA.nil)))) (OkA.nil)))) (fun _ => by rfl)))))) (OkSs.cons (OkS.ret (OkE.bool))
  (OkSs.nil)) (OkSs.nil))
  (OkSs.cons (OkS.ret (OkE.all_ C (by kernel_rfl) (OkA.cons (OkN.e (OkN.lcnK [("key", 2)] C (by kernel_rfl) ((by kernel_rfl)) ⟨fun _ _ _ _ _ => OkG.nl C.blk (by kernel_rfl), fun _ _ _ _ _ => OkTs.nil, fun _ _ _ _ _ => OkE.fun C.blk A.f53.blk (by kernel_rfl) (OkA.cons (OkE.ix C.blk (OkE.nm C.blk (by kernel_rfl)) (OkE.nm C.blk (by kernel_rfl)) (by intro o i; rfl)) (OkA.cons (OkE.ix C.blk (OkE.nm C.blk (by kernel_rfl)) (OkE.nm C.blk (by kernel_rfl)) (by intro o i; rfl)) (OkA.nil))), by decide⟩)) (OkA.nil))))
  (OkSs.nil))) (OkSs.nil))
  (OkSs.cons (OkS.if (OkT.cmp C (OkE.nm C (by kernel_rfl)) (OkE.non) (by rfl)) (OkSs.cons (OkS.ret (OkE.cmp C (OkE.nm C (by kernel_rfl)) (OkE.non) (by rfl)))
  (OkSs.nil)) (OkSs.nil))
  (OkSs.cons (OkS.if (OkT.val C.hK (OkE.isT "bool" C (by kernel_rfl) (by kernel_rfl) (by kernel_rfl) (by decide +kernel) (by decide +kernel) (by decide +kernel) (OkE.nm C (by kernel_rfl))) (fun _ => by rfl)) (OkSs.cons (OkS.ret (OkE.bo C.hK (OkE.isT "bool" C (by kernel_rfl) (by kernel_rfl) (by kernel_rfl) (by decide +kernel) (by decide +kernel) (by decide +kernel) (OkE.nm C (by kernel_rfl))) (OkE.bo1 (OkE.cmp C (OkE.nm C (by kernel_rfl)) (OkE.nm C (by kernel_rfl)) (by rfl)))))
  (OkSs.nil)) (OkSs.nil))
  (OkSs.cons (OkS.if (OkT.val C.hK (OkE.isT "int" C (by kernel_rfl) (by kernel_rfl) (by kernel_rfl) (by decide +kernel) (by decide +kernel) (by decide +kernel) (OkE.nm C (by kernel_rfl))) (fun _ => by rfl)) (OkSs.cons (OkS.ret (OkE.bo C.hK (OkE.isT "int" C (by kernel_rfl) (by kernel_rfl) (by kernel_rfl) (by decide +kernel) (by decide +kernel) (by decide +kernel) (OkE.nm C (by kernel_rfl))) (OkE.bo C.hK (OkE.not C.hK (OkE.isT "bool" C (by kernel_rfl) (by kernel_rfl) (by kernel_rfl) (by decide +kernel) (by decide +kernel) (by decide +kernel) (OkE.nm C (by kernel_rfl)))) (OkE.bo1 (OkE.cmp C (OkE.nm C (by kernel_rfl)) (OkE.nm C (by kernel_rfl)) (by rfl))))))
  (OkSs.nil)) (OkSs.nil))
  (OkSs.cons (OkS.ret (OkE.bo C.hK (OkE.isT "str" C (by kernel_rfl) (by kernel_rfl) (by kernel_rfl) (by decide +kernel) (by decide +kernel) (by decide +kernel) (OkE.nm C (by kernel_rfl))) (OkE.bo1 (OkE.cmp C (OkE.nm C (by kernel_rfl)) (OkE.nm C (by kernel_rfl)) (by rfl)))))
  (OkSs.nil))))))
/- _law_kinds_of -/
def N54 : List Str := (["e", "told", "k"] : List String).map Str.ofString
def b54 (F : Fs) : Ro → Mu → Rs Fl := sCons (sSetN 1 (dispL (aCons (evIsX GH.T "BadPrices" (evVar 0)) (aCons (evIsX GH.T "BadWishes" (evVar 0)) (aCons (evIsX GH.T "BadLevels" (evVar 0)) (aCons (evIsX GH.T "NotStraight" (evVar 0)) (aNil)))))))
  (sCons (sExpr (evW 1 kExtend (aCons (evN (dispL (aCons (evIsX GH.T "BadAsks" (evVar 0)) (aCons (evIsX GH.T "NotApart" (evVar 0)) (aCons (evIsX GH.T "BadStrategy" (evVar 0)) (aCons (evIsX GH.T "BadEdit" (evVar 0)) (aNil))))))) (aNil))))
  (sCons (sExpr (evW 1 kExtend (aCons (evN (dispL (aCons (evIsX GH.T "BadDesk" (evVar 0)) (aCons (evIsX GH.T "BadDeskText" (evVar 0)) (aCons (evIsX GH.T "NothingToUndo" (evVar 0)) (aCons (evIsX GH.T "NothingToRedo" (evVar 0)) (aNil))))))) (aNil))))
  (sCons (sRet (evN (evLc (evR1 (evK (.int 12))) (tNm 2) (toT (ev2 (fun _ x y => opIx x y) (evVar 1) (evVar 2))) (evVar 2) [2])))
  (sNil))))
theorem ok54 (C : Cxt g GH.bls n N54 (defScope (GH.top 54)) X) (S : CxS X) (hn : 2 ≤ n) (A : Calls g X n F) (Z : Errs g X) : OkSs g X (defBody (GH.top 54)) (b54 F) :=
  OkSs.cons (OkS.toN C S (by kernel_rfl) (OkN.lst (OkA.cons (OkE.isE C Z.t (by kernel_rfl) (C.co (by kernel_rfl) Z.m_BadPrices) (OkE.nm C (by kernel_rfl))) (OkA.cons (OkE.isE C Z.t (by kernel_rfl) (C.co (by kernel_rfl) Z.m_BadWishes) (OkE.nm C (by kernel_rfl))) (OkA.cons (OkE.isE C Z.t (by kernel_rfl) (C.co (by kernel_rfl) Z.m_BadLevels) (OkE.nm C (by kernel_rfl))) (OkA.cons (OkE.isE C Z.t (by kernel_rfl) (C.co (by kernel_rfl) Z.m_NotStraight) (OkE.nm C (by kernel_rfl))) (OkA.nil)))))))
  (OkSs.cons (OkS.expr (OkE.extd C (by kernel_rfl) (OkA.cons (OkN.e (OkN.lst (OkA.cons (OkE.isE C Z.t (by kernel_rfl) (C.co (by kernel_rfl) Z.m_BadAsks) (OkE.nm C (by kernel_rfl))) (OkA.cons (OkE.isE C Z.t (by kernel_rfl) (C.co (by kernel_rfl) Z.m_NotApart) (OkE.nm C (by kernel_rfl))) (OkA.cons (OkE.isE C Z.t (by kernel_rfl) (C.co (by kernel_rfl) Z.m_BadStrategy) (OkE.nm C (by kernel_rfl))) (OkA.cons (OkE.isE C Z.t (by kernel_rfl) (C.co (by kernel_rfl) Z.m_BadEdit) (OkE.nm C (by kernel_rfl))) (OkA.nil))))))) (OkA.nil))))
  (OkSs.cons (OkS.expr (OkE.extd C (by kernel_rfl) (OkA.cons (OkN.e (OkN.lst (OkA.cons (OkE.isE C Z.t (by kernel_rfl) (C.co (by kernel_rfl) Z.m_BadDesk) (OkE.nm C (by kernel_rfl))) (OkA.cons (OkE.isE C Z.t (by kernel_rfl) (C.co (by kernel_rfl) Z.m_BadDeskText) (OkE.nm C (by kernel_rfl))) (OkA.cons (OkE.isE C Z.t (by kernel_rfl) (C.co (by kernel_rfl) Z.m_NothingToUndo) (OkE.nm C (by kernel_rfl))) (OkA.cons (OkE.isE C Z.t (by kernel_rfl) (C.co (by kernel_rfl) Z.m_NothingToRedo) (OkE.nm C (by kernel_rfl))) (OkA.nil))))))) (OkA.nil))))
  (OkSs.cons (OkS.ret (OkN.e (OkN.lcn [("k", 2)] C (by kernel_rfl) (OkI.r1 C (by kernel_rfl) (OkE.int)) ⟨fun _ _ _ _ _ => OkG.nl C.blk (by kernel_rfl), fun _ _ _ _ _ => OkTs.one (OkT.val C.blk.hK (OkE.ix C.blk (OkE.nm C.blk (by kernel_rfl)) (OkE.nm C.blk (by kernel_rfl)) (by intro o i; rfl)) (fun _ => by rfl)), fun _ _ _ _ _ => OkE.nm C.blk (by kernel_rfl), by decide⟩)))
  (OkSs.nil))))
/- _law_others -/
def N55 : List Str := (["x", "told"] : List String).map Str.ofString
def b55 (F : Fs) : Ro → Mu → Rs Fl := sCons (sSetN 1 (dispL (aCons (evMkX "BadOther" "other" (evVar 0)) (aCons (evMkX "BadProof" "proof" (evVar 0)) (aCons (evMkX "BadPath" "path" (evVar 0)) (aCons (evMkX "BadFormulas" "index" (evVar 0)) (aCons (evMkX "BadTerm" "term" (evVar 0)) (aCons (evMkX "BadMore" "more" (evVar 0)) (aCons (evMkX "BadTheirs" "index" (evVar 0)) (aCons (evMkX "BadAnswer" "answer" (evVar 0)) (aNil)))))))))))
  (sCons (sExpr (evW 1 kExtend (aCons (evN (dispL (aCons (evMkX "BadWholeText" "line" (evVar 0)) (aCons (evMkX "BadFormula" "formula" (evVar 0)) (aCons (evMkX "BadGoal" "goal" (evVar 0)) (aCons (evMkX "BadHeap" "index" (evVar 0)) (aCons (evMkX "BadWorld" "world" (evVar 0)) (aCons (evMkX "BadPlace" "place" (evVar 0)) (aCons (evMkX "BadPart" "part" (evVar 0)) (aCons (evMkX "BadFormulaText" "place" (evVar 0)) (aNil))))))))))) (aNil))))
  (sCons (sExpr (evW 1 kExtend (aCons (evN (dispL (aCons (evMkX "BadHeapText" "line" (evVar 0)) (aCons (evMkX "BadWorldText" "line" (evVar 0)) (aCons (evMkX "BadSome" "some" (evVar 0)) (aCons (evMkX "BadOthers" "others" (evVar 0)) (aCons (evMkX "BadSets" "sets" (evVar 0)) (aCons (evMkX "BadWord" "word" (evVar 0)) (aCons (evMkX "BadNumber" "number" (evVar 0)) (aCons (evMkX "BadTold" "told" (evVar 0)) (aNil))))))))))) (aNil))))
  (sCons (sExpr (evW 1 kExtend (aCons (evN (dispL (aCons (evMkX "BadWords" "index" (evVar 0)) (aCons (evMkX "BadWorlds" "index" (evVar 0)) (aCons (evMkX "BadMany" "many" (evVar 0)) (aCons (evMkX "BadHeight" "height" (evVar 0)) (aCons (evMkX "BadFull" "full" (evVar 0)) (aCons (evMkX "TwoAlike" "other" (evVar 0)) (aCons (evMkX "BadWeave" "weave" (evVar 0)) (aCons (evMkX "BadName" "name" (evVar 0)) (aNil))))))))))) (aNil))))
  (sCons (sExpr (evW 1 kExtend (aCons (evN (dispL (aCons (evMkX "NotClearing" "place" (evVar 0)) (aNil)))) (aNil))))
  (sCons (sRet (evVar 1))
  (sNil))))))
theorem ok55 (C : Cxt g GH.bls n N55 (defScope (GH.top 55)) X) (S : CxS X) (hn : 2 ≤ n) (A : Calls g X n F) (Z : Errs g X) : OkSs g X (defBody (GH.top 55)) (b55 F) :=
  OkSs.cons (OkS.toN C S (by kernel_rfl) (OkN.lst (OkA.cons (OkE.new C Z.x_BadOther hn (by kernel_rfl) (OkE.nm C (by kernel_rfl))) (OkA.cons (OkE.new C Z.x_BadProof hn (by kernel_rfl) (OkE.nm C (by kernel_rfl))) (OkA.cons (OkE.new C Z.x_BadPath hn (by kernel_rfl) (OkE.nm C (by kernel_rfl))) (OkA.cons (OkE.new C Z.x_BadFormulas hn (by kernel_rfl) (OkE.nm C (by kernel_rfl))) (OkA.cons (OkE.new C Z.x_BadTerm hn (by kernel_rfl) (OkE.nm C (by kernel_rfl))) (OkA.cons (OkE.new C Z.x_BadMore hn (by kernel_rfl) (OkE.nm C (by kernel_rfl))) (OkA.cons (OkE.new C Z.x_BadTheirs hn (by kernel_rfl) (OkE.nm C (by kernel_rfl))) (OkA.cons (OkE.new C Z.x_BadAnswer hn (by kernel_rfl) (OkE.nm C (by kernel_rfl))) (OkA.nil)))))))))))
  (OkSs.cons (OkS.expr (OkE.extd C (by kernel_rfl) (OkA.cons (OkN.e (OkN.lst (OkA.cons (OkE.new C Z.x_BadWholeText hn (by kernel_rfl) (OkE.nm C (by kernel_rfl))) (OkA.cons (OkE.new C Z.x_BadFormula hn (by kernel_rfl) (OkE.nm C (by kernel_rfl))) (OkA.cons (OkE.new C Z.x_BadGoal hn (by kernel_rfl) (OkE.nm C (by kernel_rfl))) (OkA.cons (OkE.new C Z.x_BadHeap hn (by kernel_rfl) (OkE.nm C (by kernel_rfl))) (OkA.cons (OkE.new C Z.x_BadWorld hn (by kernel_rfl) (OkE.nm C (by kernel_rfl))) (OkA.cons (OkE.new C Z.x_BadPlace hn (by kernel_rfl) (OkE.nm C (by kernel_rfl))) (OkA.cons (OkE.new C Z.x_BadPart hn (by kernel_rfl) (OkE.nm C (by kernel_rfl))) (OkA.cons (OkE.new C Z.x_BadFormulaText hn (by kernel_rfl) (OkE.nm C (by kernel_rfl))) (OkA.nil))))))))))) (OkA.nil))))
  (OkSs.cons (OkS.expr (OkE.extd C (by kernel_rfl) (OkA.cons (OkN.e (OkN.lst (OkA.cons (OkE.new C Z.x_BadHeapText hn (by kernel_rfl) (OkE.nm C (by kernel_rfl))) (OkA.cons (OkE.new C Z.x_BadWorldText hn (by kernel_rfl) (OkE.nm C (by kernel_rfl))) (OkA.cons (OkE.new C Z.x_BadSome hn (by kernel_rfl) (OkE.nm C (by kernel_rfl))) (OkA.cons (OkE.new C Z.x_BadOthers hn (by kernel_rfl) (OkE.nm C (by kernel_rfl))) (OkA.cons (OkE.new C Z.x_BadSets hn (by kernel_rfl) (OkE.nm C (by kernel_rfl))) (OkA.cons (OkE.new C Z.x_BadWord hn (by kernel_rfl) (OkE.nm C (by kernel_rfl))) (OkA.cons (OkE.new C Z.x_BadNumber hn (by kernel_rfl) (OkE.nm C (by kernel_rfl))) (OkA.cons (OkE.new C Z.x_BadTold hn (by kernel_rfl) (OkE.nm C (by kernel_rfl))) (OkA.nil))))))))))) (OkA.nil))))
  (OkSs.cons (OkS.expr (OkE.extd C (by kernel_rfl) (OkA.cons (OkN.e (OkN.lst (OkA.cons (OkE.new C Z.x_BadWords hn (by kernel_rfl) (OkE.nm C (by kernel_rfl))) (OkA.cons (OkE.new C Z.x_BadWorlds hn (by kernel_rfl) (OkE.nm C (by kernel_rfl))) (OkA.cons (OkE.new C Z.x_BadMany hn (by kernel_rfl) (OkE.nm C (by kernel_rfl))) (OkA.cons (OkE.new C Z.x_BadHeight hn (by kernel_rfl) (OkE.nm C (by kernel_rfl))) (OkA.cons (OkE.new C Z.x_BadFull hn (by kernel_rfl) (OkE.nm C (by kernel_rfl))) (OkA.cons (OkE.new C Z.x_TwoAlike hn (by kernel_rfl) (OkE.nm C (by kernel_rfl))) (OkA.cons (OkE.new C Z.x_BadWeave hn (by kernel_rfl) (OkE.nm C (by kernel_rfl))) (OkA.cons (OkE.new C Z.x_BadName hn (by kernel_rfl) (OkE.nm C (by kernel_rfl))) (OkA.nil))))))))))) (OkA.nil))))
  (OkSs.cons (OkS.expr (OkE.extd C (by kernel_rfl) (OkA.cons (OkN.e (OkN.lst (OkA.cons (OkE.new C Z.x_NotClearing hn (by kernel_rfl) (OkE.nm C (by kernel_rfl))) (OkA.nil)))) (OkA.nil))))
  (OkSs.cons (OkS.ret (OkE.nm C (by kernel_rfl)))
  (OkSs.nil))))))
/- _law_is_other -/
def N56 : List Str := (["e", "told"] : List String).map Str.ofString
def b56 (F : Fs) : Ro → Mu → Rs Fl := sCons (sSetN 1 (dispL (aCons (evIsXs GH.T ["BadOther", "BadProof", "BadPath", "BadFormulas", "BadTerm", "BadMore", "BadTheirs", "BadAnswer", "BadWholeText"] (evVar 0)) (aNil))))
  (sCons (sExpr (evW 1 kAppend (aCons (evIsXs GH.T ["BadFormula", "BadGoal", "BadHeap", "BadWorld", "BadPlace", "BadPart", "BadFormulaText", "BadHeapText", "BadWorldText"] (evVar 0)) (aNil))))
  (sCons (sExpr (evW 1 kAppend (aCons (evIsXs GH.T ["BadSome", "BadOthers", "BadSets", "BadWord", "BadNumber", "BadTold", "BadWords", "BadWorlds", "BadMany"] (evVar 0)) (aNil))))
  (sCons (sExpr (evW 1 kAppend (aCons (evIsXs GH.T ["BadHeight", "BadFull", "TwoAlike", "BadWeave", "BadName", "NotClearing"] (evVar 0)) (aNil))))
  (sCons (sRet (ev2 (cmpK .In) (evK (.bl true)) (evVar 1)))
  (sNil)))))
theorem ok56 (C : Cxt g GH.bls n N56 (defScope (GH.top 56)) X) (S : CxS X) (hn : 2 ≤ n) (A : Calls g X n F) (Z : Errs g X) : OkSs g X (defBody (GH.top 56)) (b56 F) :=
  OkSs.cons (OkS.toN C S (by kernel_rfl) (OkN.lst (OkA.cons (OkE.isEs "BadOther" C Z.t Z.k (by kernel_rfl) (.cons (C.co (by kernel_rfl) Z.m_BadOther) (.cons (C.co (by kernel_rfl) Z.m_BadProof) (.cons (C.co (by kernel_rfl) Z.m_BadPath) (.cons (C.co (by kernel_rfl) Z.m_BadFormulas) (.cons (C.co (by kernel_rfl) Z.m_BadTerm) (.cons (C.co (by kernel_rfl) Z.m_BadMore) (.cons (C.co (by kernel_rfl) Z.m_BadTheirs) (.cons (C.co (by kernel_rfl) Z.m_BadAnswer) (.cons (C.co (by kernel_rfl) Z.m_BadWholeText) .nil))))))))) (by decide) rfl (OkE.nm C (by kernel_rfl))) (OkA.nil))))
  (OkSs.cons (OkS.expr (OkE.app C (by kernel_rfl) (OkA.cons (OkE.isEs "BadFormula" C Z.t Z.k (by kernel_rfl) (.cons (C.co (by kernel_rfl) Z.m_BadFormula) (.cons (C.co (by kernel_rfl) Z.m_BadGoal) (.cons (C.co (by kernel_rfl) Z.m_BadHeap) (.cons (C.co (by kernel_rfl) Z.m_BadWorld) (.cons (C.co (by kernel_rfl) Z.m_BadPlace) (.cons (C.co (by kernel_rfl) Z.m_BadPart) (.cons (C.co (by kernel_rfl) Z.m_BadFormulaText) (.cons (C.co (by kernel_rfl) Z.m_BadHeapText) (.cons (C.co (by kernel_rfl) Z.m_BadWorldText) .nil))))))))) (by decide) rfl (OkE.nm C (by kernel_rfl))) (OkA.nil))))
  (OkSs.cons (OkS.expr (OkE.app C (by kernel_rfl) (OkA.cons (OkE.isEs "BadSome" C Z.t Z.k (by kernel_rfl) (.cons (C.co (by kernel_rfl) Z.m_BadSome) (.cons (C.co (by kernel_rfl) Z.m_BadOthers) (.cons (C.co (by kernel_rfl) Z.m_BadSets) (.cons (C.co (by kernel_rfl) Z.m_BadWord) (.cons (C.co (by kernel_rfl) Z.m_BadNumber) (.cons (C.co (by kernel_rfl) Z.m_BadTold) (.cons (C.co (by kernel_rfl) Z.m_BadWords) (.cons (C.co (by kernel_rfl) Z.m_BadWorlds) (.cons (C.co (by kernel_rfl) Z.m_BadMany) .nil))))))))) (by decide) rfl (OkE.nm C (by kernel_rfl))) (OkA.nil))))
  (OkSs.cons (OkS.expr (OkE.app C (by kernel_rfl) (OkA.cons (OkE.isEs "BadHeight" C Z.t Z.k (by kernel_rfl) (.cons (C.co (by kernel_rfl) Z.m_BadHeight) (.cons (C.co (by kernel_rfl) Z.m_BadFull) (.cons (C.co (by kernel_rfl) Z.m_TwoAlike) (.cons (C.co (by kernel_rfl) Z.m_BadWeave) (.cons (C.co (by kernel_rfl) Z.m_BadName) (.cons (C.co (by kernel_rfl) Z.m_NotClearing) .nil)))))) (by decide) rfl (OkE.nm C (by kernel_rfl))) (OkA.nil))))
  (OkSs.cons (OkS.ret (OkE.cmp C (OkE.bool) (OkE.nm C (by kernel_rfl)) (by rfl)))
  (OkSs.nil)))))
/- _law_made_a -/
def N57 : List Str := (["at", "x", "made"] : List String).map Str.ofString
def b57 (F : Fs) : Ro → Mu → Rs Fl := sCons (sIf (toT (ev2 (cmpK .Eq) (evVar 0) (evK (.int 0)))) (sCons (sSet 2 (evMkX "BadPrices" "prices" (evVar 1)))
  (sCons (sRet (dispT (aCons (evVar 2) (aCons (evFld "prices" ["BadPrices"] (evVar 2)) (aNil)))))
  (sNil))) (sNil))
  (sCons (sIf (toT (ev2 (cmpK .Eq) (evVar 0) (evK (.int 1)))) (sCons (sSet 2 (evMkX "BadWishes" "index" (evVar 1)))
  (sCons (sRet (dispT (aCons (evVar 2) (aCons (evFld "index" ["BadFormulas", "BadTheirs", "BadWishes", "NotStraight", "BadAsks", "NotApart", "BadHeap", "BadWords", "BadWorlds"] (evVar 2)) (aNil)))))
  (sNil))) (sNil))
  (sCons (sIf (toT (ev2 (cmpK .Eq) (evVar 0) (evK (.int 2)))) (sCons (sSet 2 (evMkX "BadLevels" "levels" (evVar 1)))
  (sCons (sRet (dispT (aCons (evVar 2) (aCons (evFld "levels" ["BadLevels"] (evVar 2)) (aNil)))))
  (sNil))) (sNil))
  (sCons (sIf (toT (ev2 (cmpK .Eq) (evVar 0) (evK (.int 3)))) (sCons (sSet 2 (evMkX "NotStraight" "index" (evVar 1)))
  (sCons (sRet (dispT (aCons (evVar 2) (aCons (evFld "index" ["BadFormulas", "BadTheirs", "BadWishes", "NotStraight", "BadAsks", "NotApart", "BadHeap", "BadWords", "BadWorlds"] (evVar 2)) (aNil)))))
  (sNil))) (sNil))
  (sCons (sIf (toT (ev2 (cmpK .Eq) (evVar 0) (evK (.int 4)))) (sCons (sSet 2 (evMkX "BadAsks" "index" (evVar 1)))
  (sCons (sRet (dispT (aCons (evVar 2) (aCons (evFld "index" ["BadFormulas", "BadTheirs", "BadWishes", "NotStraight", "BadAsks", "NotApart", "BadHeap", "BadWords", "BadWorlds"] (evVar 2)) (aNil)))))
  (sNil))) (sNil))
  (sCons (sIf (toT (ev2 (cmpK .Eq) (evVar 0) (evK (.int 5)))) (sCons (sSet 2 (evMkX "NotApart" "index" (evVar 1)))
  (sCons (sRet (dispT (aCons (evVar 2) (aCons (evFld "index" ["BadFormulas", "BadTheirs", "BadWishes", "NotStraight", "BadAsks", "NotApart", "BadHeap", "BadWords", "BadWorlds"] (evVar 2)) (aNil)))))
  (sNil))) (sNil))
  (sCons (sIf (toT (ev2 (cmpK .Eq) (evVar 0) (evK (.int 6)))) (sCons (sSet 2 (evMkX "BadStrategy" "strategy" (evVar 1)))
  (sCons (sRet (dispT (aCons (evVar 2) (aCons (evFld "strategy" ["BadStrategy"] (evVar 2)) (aNil)))))
  (sNil))) (sNil))
  (sCons (sSet 2 (evMkX "BadEdit" "edit" (evVar 1)))
  (sCons (sRet (dispT (aCons (evVar 2) (aCons (evFld "edit" ["BadEdit"] (evVar 2)) (aNil)))))
  (sNil)))))))))
theorem ok57 (C : Cxt g GH.bls n N57 (defScope (GH.top 57)) X) (S : CxS X) (hn : 2 ≤ n) (A : Calls g X n F) (Z : Errs g X) : OkSs g X (defBody (GH.top 57)) (b57 F) :=
  OkSs.cons (OkS.if (OkT.cmp C (OkE.nm C (by kernel_rfl)) (OkE.int) (by rfl)) (OkSs.cons (OkS.to C S (by kernel_rfl) (OkE.new C Z.x_BadPrices hn (by kernel_rfl) (OkE.nm C (by kernel_rfl))))
  (OkSs.cons (OkS.ret (OkE.tup (OkA.cons (OkE.nm C (by kernel_rfl)) (OkA.cons (OkE.fld C Z.f_prices (OkE.nm C (by kernel_rfl))) (OkA.nil)))))
  (OkSs.nil))) (OkSs.nil))
  (OkSs.cons (OkS.if (OkT.cmp C (OkE.nm C (by kernel_rfl)) (OkE.int) (by rfl)) (OkSs.cons (OkS.to C S (by kernel_rfl) (OkE.newK C Z.x_BadWishes hn (by kernel_rfl) (OkE.nm C (by kernel_rfl))))
  (OkSs.cons (OkS.ret (OkE.tup (OkA.cons (OkE.nm C (by kernel_rfl)) (OkA.cons (OkE.fld C Z.f_index (OkE.nm C (by kernel_rfl))) (OkA.nil)))))
  (OkSs.nil))) (OkSs.nil))
  (OkSs.cons (OkS.if (OkT.cmp C (OkE.nm C (by kernel_rfl)) (OkE.int) (by rfl)) (OkSs.cons (OkS.to C S (by kernel_rfl) (OkE.new C Z.x_BadLevels hn (by kernel_rfl) (OkE.nm C (by kernel_rfl))))
  (OkSs.cons (OkS.ret (OkE.tup (OkA.cons (OkE.nm C (by kernel_rfl)) (OkA.cons (OkE.fld C Z.f_levels (OkE.nm C (by kernel_rfl))) (OkA.nil)))))
  (OkSs.nil))) (OkSs.nil))
  (OkSs.cons (OkS.if (OkT.cmp C (OkE.nm C (by kernel_rfl)) (OkE.int) (by rfl)) (OkSs.cons (OkS.to C S (by kernel_rfl) (OkE.new C Z.x_NotStraight hn (by kernel_rfl) (OkE.nm C (by kernel_rfl))))
  (OkSs.cons (OkS.ret (OkE.tup (OkA.cons (OkE.nm C (by kernel_rfl)) (OkA.cons (OkE.fld C Z.f_index (OkE.nm C (by kernel_rfl))) (OkA.nil)))))
  (OkSs.nil))) (OkSs.nil))
  (OkSs.cons (OkS.if (OkT.cmp C (OkE.nm C (by kernel_rfl)) (OkE.int) (by rfl)) (OkSs.cons (OkS.to C S (by kernel_rfl) (OkE.newK C Z.x_BadAsks hn (by kernel_rfl) (OkE.nm C (by kernel_rfl))))
  (OkSs.cons (OkS.ret (OkE.tup (OkA.cons (OkE.nm C (by kernel_rfl)) (OkA.cons (OkE.fld C Z.f_index (OkE.nm C (by kernel_rfl))) (OkA.nil)))))
  (OkSs.nil))) (OkSs.nil))
  (OkSs.cons (OkS.if (OkT.cmp C (OkE.nm C (by kernel_rfl)) (OkE.int) (by rfl)) (OkSs.cons (OkS.to C S (by kernel_rfl) (OkE.new C Z.x_NotApart hn (by kernel_rfl) (OkE.nm C (by kernel_rfl))))
  (OkSs.cons (OkS.ret (OkE.tup (OkA.cons (OkE.nm C (by kernel_rfl)) (OkA.cons (OkE.fld C Z.f_index (OkE.nm C (by kernel_rfl))) (OkA.nil)))))
  (OkSs.nil))) (OkSs.nil))
  (OkSs.cons (OkS.if (OkT.cmp C (OkE.nm C (by kernel_rfl)) (OkE.int) (by rfl)) (OkSs.cons (OkS.to C S (by kernel_rfl) (OkE.new C Z.x_BadStrategy hn (by kernel_rfl) (OkE.nm C (by kernel_rfl))))
  (OkSs.cons (OkS.ret (OkE.tup (OkA.cons (OkE.nm C (by kernel_rfl)) (OkA.cons (OkE.fld C Z.f_strategy (OkE.nm C (by kernel_rfl))) (OkA.nil)))))
  (OkSs.nil))) (OkSs.nil))
  (OkSs.cons (OkS.to C S (by kernel_rfl) (OkE.newK C Z.x_BadEdit hn (by kernel_rfl) (OkE.nm C (by kernel_rfl))))
  (OkSs.cons (OkS.ret (OkE.tup (OkA.cons (OkE.nm C (by kernel_rfl)) (OkA.cons (OkE.fld C Z.f_edit (OkE.nm C (by kernel_rfl))) (OkA.nil)))))
  (OkSs.nil)))))))))
/- _law_made_b -/
def N58 : List Str := (["at", "x", "made"] : List String).map Str.ofString
def b58 (F : Fs) : Ro → Mu → Rs Fl := sCons (sIf (toT (ev2 (cmpK .Eq) (evVar 0) (evK (.int 8)))) (sCons (sSet 2 (evMkX "BadDesk" "desk" (evVar 1)))
  (sCons (sRet (dispT (aCons (evVar 2) (aCons (evFld "desk" ["BadDesk"] (evVar 2)) (aNil)))))
  (sNil))) (sNil))
  (sCons (sSet 2 (evMkX "BadDeskText" "line" (evVar 1)))
  (sCons (sRet (dispT (aCons (evVar 2) (aCons (evFld "line" ["BadWholeText", "BadDeskText", "BadHeapText", "BadWorldText"] (evVar 2)) (aNil)))))
  (sNil)))
theorem ok58 (C : Cxt g GH.bls n N58 (defScope (GH.top 58)) X) (S : CxS X) (hn : 2 ≤ n) (A : Calls g X n F) (Z : Errs g X) : OkSs g X (defBody (GH.top 58)) (b58 F) :=
  OkSs.cons (OkS.if (OkT.cmp C (OkE.nm C (by kernel_rfl)) (OkE.int) (by rfl)) (OkSs.cons (OkS.to C S (by kernel_rfl) (OkE.new C Z.x_BadDesk hn (by kernel_rfl) (OkE.nm C (by kernel_rfl))))
  (OkSs.cons (OkS.ret (OkE.tup (OkA.cons (OkE.nm C (by kernel_rfl)) (OkA.cons (OkE.fld C Z.f_desk (OkE.nm C (by kernel_rfl))) (OkA.nil)))))
  (OkSs.nil))) (OkSs.nil))
  (OkSs.cons (OkS.to C S (by kernel_rfl) (OkE.new C Z.x_BadDeskText hn (by kernel_rfl) (OkE.nm C (by kernel_rfl))))
  (OkSs.cons (OkS.ret (OkE.tup (OkA.cons (OkE.nm C (by kernel_rfl)) (OkA.cons (OkE.fld C Z.f_line (OkE.nm C (by kernel_rfl))) (OkA.nil)))))
  (OkSs.nil)))
/- _law_made_at -/
def N59 : List Str := (["at", "x"] : List String).map Str.ofString
def b59 (F : Fs) : Ro → Mu → Rs Fl := sCons (sIf (toT (ev2 (cmpK .Lt) (evVar 0) (evK (.int 10)))) (sCons (sRet (evIte (toT (ev2 (cmpK .Lt) (evVar 0) (evK (.int 8)))) (evCall 2 (F 57) (aCons (evVar 0) (aCons (evVar 1) (aNil)))) (evCall 2 (F 58) (aCons (evVar 0) (aCons (evVar 1) (aNil))))))
  (sNil)) (sNil))
  (sCons (sRet (dispT (aCons (ev2 (fun _ x y => opIx x y) (evN (dispL (aCons (evK (.exc "NothingToUndo" [])) (aCons (evK (.exc "NothingToRedo" [])) (aNil))))) (ev2 (fun c x y => opBin c .Sub x y) (evVar 0) (evK (.int 10)))) (aCons (evVar 1) (aNil)))))
  (sNil))
theorem ok59 (C : Cxt g GH.bls n N59 (defScope (GH.top 59)) X) (S : CxS X) (hn : 2 ≤ n) (A : Calls g X n F) (Z : Errs g X) : OkSs g X (defBody (GH.top 59)) (b59 F) :=
  OkSs.cons (OkS.if (OkT.cmp C (OkE.nm C (by kernel_rfl)) (OkE.int) (by rfl)) (OkSs.cons (OkS.ret (OkE.ite (OkT.cmp C (OkE.nm C (by kernel_rfl)) (OkE.int) (by rfl)) (OkE.fun C A.f57 (by kernel_rfl) (OkA.cons (OkE.nm C (by kernel_rfl)) (OkA.cons (OkE.nm C (by kernel_rfl)) (OkA.nil)))) (OkE.fun C A.f58 (by kernel_rfl) (OkA.cons (OkE.nm C (by kernel_rfl)) (OkA.cons (OkE.nm C (by kernel_rfl)) (OkA.nil))))))
  (OkSs.nil)) (OkSs.nil))
  (OkSs.cons (OkS.ret (OkE.tup (OkA.cons (OkE.ix C (OkN.e (OkN.lst (OkA.cons (OkE.newZ C Z.z_NothingToUndo (by kernel_rfl)) (OkA.cons (OkE.newZ C Z.z_NothingToRedo (by kernel_rfl)) (OkA.nil))))) (OkE.bin C.hK (OkE.nm C (by kernel_rfl)) (OkE.int)) (by intro o i; rfl)) (OkA.cons (OkE.nm C (by kernel_rfl)) (OkA.nil)))))
  (OkSs.nil))
/- _law_object -/
def N60 : List Str := (["state", "way"] : List String).map Str.ofString
def b60 (F : Fs) : Ro → Mu → Rs Fl := sCons (sSet 1 (evCall 2 (F 51) (aCons (evVar 0) (aCons (evK (.int 7)) (aNil)))))
  (sCons (sIf (toT (ev2 (cmpK .Lt) (evVar 1) (evK (.int 2)))) (sCons (sRet (ev2 (fun _ x y => opIx x y) (evN (dispL (aCons (evCall 3 (F 52) (aCons (evVar 0) (aCons (ev1 (fun _ x => kNeg x) (evK (.int 9))) (aCons (evK (.int 9)) (aNil))))) (aCons (ev2 (fun c x y => opBin c .Add x y) (evK (.str "w")) (evC kStr (aCons (evCall 2 (F 51) (aCons (evVar 0) (aCons (evK (.int 99)) (aNil)))) (aNil)))) (aNil))))) (evVar 1)))
  (sNil)) (sNil))
  (sCons (sIf (toT (ev2 (cmpK .Lt) (evVar 1) (evK (.int 5)))) (sCons (sRet (ev2 (fun _ x y => opIx x y) (evN (dispL (aCons (evK .non) (aCons (ev2 (cmpK .Eq) (evCall 2 (F 51) (aCons (evVar 0) (aCons (evK (.int 2)) (aNil)))) (evK (.int 0))) (aCons (dispT (aCons (evK (.int 1)) (aCons (evCall 2 (F 51) (aCons (evVar 0) (aCons (evK (.int 9)) (aNil)))) (aNil)))) (aNil)))))) (ev2 (fun c x y => opBin c .Sub x y) (evVar 1) (evK (.int 2)))))
  (sNil)) (sNil))
  (sCons (sRet (evIte (toT (ev2 (cmpK .Eq) (evVar 1) (evK (.int 5)))) (evN (dispL (aCons (evCall 2 (F 51) (aCons (evVar 0) (aCons (evK (.int 9)) (aNil)))) (aCons (evN (dispL (aCons (evK (.int 1)) (aNil)))) (aNil))))) (evN (evDict (dCons (evK (.str "a")) (evCall 2 (F 51) (aCons (evVar 0) (aCons (evK (.int 9)) (aNil)))) (dNil))))))
  (sNil))))
theorem ok60 (C : Cxt g GH.bls n N60 (defScope (GH.top 60)) X) (S : CxS X) (hn : 2 ≤ n) (A : Calls g X n F) (Z : Errs g X) : OkSs g X (defBody (GH.top 60)) (b60 F) :=
  OkSs.cons (OkS.to C S (by kernel_rfl) (OkE.fun C A.f51 (by kernel_rfl) (OkA.cons (OkE.nm C (by kernel_rfl)) (OkA.cons (OkE.int) (OkA.nil)))))
  (OkSs.cons (OkS.if (OkT.cmp C (OkE.nm C (by kernel_rfl)) (OkE.int) (by rfl)) (OkSs.cons (OkS.ret (OkE.ix C (OkN.e (OkN.lst (OkA.cons (OkE.fun C A.f52 (by kernel_rfl) (OkA.cons (OkE.nm C (by kernel_rfl)) (OkA.cons (OkE.neg (OkE.int)) (OkA.cons (OkE.int) (OkA.nil))))) (OkA.cons (OkE.bin C.hK (OkE.str) (OkE.str_ C (by kernel_rfl) (OkA.cons (OkE.fun C A.f51 (by kernel_rfl) (OkA.cons (OkE.nm C (by kernel_rfl)) (OkA.cons (OkE.int) (OkA.nil)))) (OkA.nil)))) (OkA.nil))))) (OkE.nm C (by kernel_rfl)) (by intro o i; rfl)))
  (OkSs.nil)) (OkSs.nil))
  (OkSs.cons (OkS.if (OkT.cmp C (OkE.nm C (by kernel_rfl)) (OkE.int) (by rfl)) (OkSs.cons (OkS.ret (OkE.ix C (OkN.e (OkN.lst (OkA.cons (OkE.non) (OkA.cons (OkE.cmp C (OkE.fun C A.f51 (by kernel_rfl) (OkA.cons (OkE.nm C (by kernel_rfl)) (OkA.cons (OkE.int) (OkA.nil)))) (OkE.int) (by rfl)) (OkA.cons (OkE.tup (OkA.cons (OkE.int) (OkA.cons (OkE.fun C A.f51 (by kernel_rfl) (OkA.cons (OkE.nm C (by kernel_rfl)) (OkA.cons (OkE.int) (OkA.nil)))) (OkA.nil)))) (OkA.nil)))))) (OkE.bin C.hK (OkE.nm C (by kernel_rfl)) (OkE.int)) (by intro o i; rfl)))
  (OkSs.nil)) (OkSs.nil))
  (OkSs.cons (OkS.ret (OkE.ite (OkT.cmp C (OkE.nm C (by kernel_rfl)) (OkE.int) (by rfl)) (OkN.e (OkN.lst (OkA.cons (OkE.fun C A.f51 (by kernel_rfl) (OkA.cons (OkE.nm C (by kernel_rfl)) (OkA.cons (OkE.int) (OkA.nil)))) (OkA.cons (OkN.e (OkN.lst (OkA.cons (OkE.int) (OkA.nil)))) (OkA.nil))))) (OkN.e (OkN.dict (OkDs.cons (OkE.str) (OkE.fun C A.f51 (by kernel_rfl) (OkA.cons (OkE.nm C (by kernel_rfl)) (OkA.cons (OkE.int) (OkA.nil)))) (OkDs.nil)) (by rfl) (by rfl) (by simp) (by simp)))))
  (OkSs.nil))))
/- _law_very -/
def N61 : List Str := (["found", "due", "same"] : List String).map Str.ofString
def b61 (F : Fs) : Ro → Mu → Rs Fl := sCons (sIf (toT (evIsi "list" (evVar 1))) (fun _ _ => .no) (sNil))
  (sCons (sIf (toT (evIsi "dict" (evVar 1))) (sCons (sPut 1 (evK (.int 1)) (evK (.str "more")))
  (sCons (sSet 2 (boV .And (evIsi "dict" (evVar 0)) (boV .And (ev2 (cmpK .In) (evK (.str "more")) (evVar 0)) (ev2 (cmpK .Eq) (evC kLen (aCons (evVar 0) (aNil))) (evC kLen (aCons (evVar 1) (aNil)))))))
  (sCons (sExpr (evW 1 kPopAt (aCons (evK (.str "more")) (aNil))))
  (sCons (sRet (boV .And (evVar 2) (evCall 2 (F 53) (aCons (evVar 0) (aCons (evVar 1) (aNil))))))
  (sNil))))) (sNil))
  (sCons (sRet (evCall 2 (F 53) (aCons (evVar 0) (aCons (evVar 1) (aNil)))))
  (sNil)))
theorem ok61 (C : Cxt g GH.bls n N61 (defScope (GH.top 61)) X) (S : CxS X) (hn : 2 ≤ n) (A : Calls g X n F) (Z : Errs g X) : OkSs g X (defBody (GH.top 61)) (b61 F) :=
  OkSs.cons (OkS.if (OkT.val C.hK (OkE.isT "list" C (by kernel_rfl) (by kernel_rfl) (by kernel_rfl) (by decide +kernel) (by decide +kernel) (by decide +kernel) (OkE.nm C (by kernel_rfl))) (fun _ => by rfl)) (OkSs.no) (OkSs.nil))
  (OkSs.cons (OkS.if (OkT.val C.hK (OkE.isT "dict" C (by kernel_rfl) (by kernel_rfl) (by kernel_rfl) (by decide +kernel) (by decide +kernel) (by decide +kernel) (OkE.nm C (by kernel_rfl))) (fun _ => by rfl)) (OkSs.cons (OkS.putB C (by kernel_rfl) (OkE.int) (OkE.str))
  (OkSs.cons (OkS.to C S (by kernel_rfl) (OkE.bo C.hK (OkE.isT "dict" C (by kernel_rfl) (by kernel_rfl) (by kernel_rfl) (by decide +kernel) (by decide +kernel) (by decide +kernel) (OkE.nm C (by kernel_rfl))) (OkE.bo C.hK (OkE.cmp C (OkE.str) (OkE.nm C (by kernel_rfl)) (by rfl)) (OkE.bo1 (OkE.cmp C (OkE.len C (by kernel_rfl) (OkA.cons (OkE.nm C (by kernel_rfl)) (OkA.nil))) (OkE.len C (by kernel_rfl) (OkA.cons (OkE.nm C (by kernel_rfl)) (OkA.nil))) (by rfl))))))
  (OkSs.cons (OkS.expr (OkE.popI C (by kernel_rfl) (OkA.cons (OkE.str) (OkA.nil))))
  (OkSs.cons (OkS.ret (OkE.bo C.hK (OkE.nm C (by kernel_rfl)) (OkE.bo1 (OkE.fun C A.f53 (by kernel_rfl) (OkA.cons (OkE.nm C (by kernel_rfl)) (OkA.cons (OkE.nm C (by kernel_rfl)) (OkA.nil)))))))
  (OkSs.nil))))) (OkSs.nil))
  (OkSs.cons (OkS.ret (OkE.fun C A.f53 (by kernel_rfl) (OkA.cons (OkE.nm C (by kernel_rfl)) (OkA.cons (OkE.nm C (by kernel_rfl)) (OkA.nil)))))
  (OkSs.nil)))
/- _law_caught -/
def N62 : List Str := (["x", "e", "plain", "told"] : List String).map Str.ofString
def b62 (F : Fs) : Ro → Mu → Rs Fl := sCons (sTryH 1 (evVar 0) (suK 3 [4])) (sCons (sSet 2 (evK (.exc "WorldError" [])))
  (sCons (sRet (dispT (aCons (evVar 3) (aCons (evCall 1 (F 54) (aCons (evVar 2) (aNil))) (aCons (evCall 1 (F 56) (aCons (evVar 2) (aNil))) (aCons (evIsX GH.T "ValueError" (evVar 2)) (aNil)))))))
  (sNil)))
theorem ok62 (C : Cxt g GH.bls n N62 (defScope (GH.top 62)) X) (S : CxS X) (hn : 2 ≤ n) (A : Calls g X n F) (Z : Errs g X) (T : CxT X) (V : FunP X 2 "_law_kinds_of" "BadAsks" [4]) {Cw : Addr} (hw : g.mg "WorldError" = some (.ref Cw)) : OkSs g X (defBody (GH.top 62)) (b62 F) :=
  OkSs.cons (OkS.tryH C T Z.x_BadAsks.k hn (by kernel_rfl) (namesX C (by kernel_rfl) hw) (fun _ hc => exm_tab Z.t (by kernel_rfl) (by kernel_rfl) (by kernel_rfl) hw _ hc) (by kernel_rfl) (fun _ _ _ => OkE.nm C.tr (by kernel_rfl)) (OkUH.kinds C S V hn (by kernel_rfl) (by kernel_rfl) (by kernel_rfl))) (OkSs.cons (OkS.to C S (by kernel_rfl) (OkE.newZ C Z.z_WorldError (by kernel_rfl)))
  (OkSs.cons (OkS.ret (OkE.tup (OkA.cons (OkE.nm C (by kernel_rfl)) (OkA.cons (OkE.fun C A.f54 (by kernel_rfl) (OkA.cons (OkE.nm C (by kernel_rfl)) (OkA.nil))) (OkA.cons (OkE.fun C A.f56 (by kernel_rfl) (OkA.cons (OkE.nm C (by kernel_rfl)) (OkA.nil))) (OkA.cons (OkE.isE C Z.t (by kernel_rfl) (C.cb "ValueError" (by kernel_rfl) (by kernel_rfl) (by decide +kernel) (by decide +kernel)) (OkE.nm C (by kernel_rfl))) (OkA.nil)))))))
  (OkSs.nil)))
/- law -/
def inB : List Stmt := match (defBody (GH.top 63)).getD 1 (.Pass ⟨0, 0, 0, 0⟩) with
  | .For (body := b) .. => b
  | _ => []
def NL' : List Str := (["script", "state", "k", "at", "one", "two", "made", "kept", "other", "others", "e"] : List String).map Str.ofString
def s0 (F : Fs) : Ro → Mu → Rs Fl := sSet 3 (evIte (toT (ev2 (cmpK .Lt) (evVar 2) (evK (.int 12)))) (ev2 (fun c x y => opBin c .Mod x y) (evC kInt (aCons (ev2 (fun c x y => opBin c .Add x y) (evVar 2) (evCall 2 (F 51) (aCons (evVar 1) (aCons (evK (.int 12)) (aNil))))) (aNil))) (evK (.int 12))) (ev2 (fun c x y => opBin c .Sub x y) (evVar 2) (evK (.int 12))))
theorem okS0 (C : Cxt g GH.bls n NL' (defScope (GH.top 63)) X) (S : CxS X) (hn : 2 ≤ n) (A : Calls g X n F) (Z : Errs g X) : OkS g X (inB.getD 0 (.Pass ⟨0, 0, 0, 0⟩)) (s0 F) :=
  OkS.to C S (by kernel_rfl) (OkE.ite (OkT.cmp C (OkE.nm C (by kernel_rfl)) (OkE.int) (by rfl)) (OkE.bin C.hK (OkE.int_ C (by kernel_rfl) (OkA.cons (OkE.bin C.hK (OkE.nm C (by kernel_rfl)) (OkE.fun C A.f51 (by kernel_rfl) (OkA.cons (OkE.nm C (by kernel_rfl)) (OkA.cons (OkE.int) (OkA.nil))))) (OkA.nil))) (OkE.int)) (OkE.bin C.hK (OkE.nm C (by kernel_rfl)) (OkE.int)))
def s1 (F : Fs) : Ro → Mu → Rs Fl := pE 4 (evCall 1 (F 60) (aCons (evVar 1) (aNil))) (pE 5 (evCall 1 (F 60) (aCons (evVar 1) (aNil))) (sNil))
theorem okS1 (C : Cxt g GH.bls n NL' (defScope (GH.top 63)) X) (S : CxS X) (hn : 2 ≤ n) (A : Calls g X n F) (Z : Errs g X) : OkS g X (inB.getD 1 (.Pass ⟨0, 0, 0, 0⟩)) (s1 F) :=
  OkS.p2 C (by kernel_rfl) (by kernel_rfl) (by decide) (OkP.consE (OkE.fun C A.f60 (by kernel_rfl) (OkA.cons (OkE.nm C (by kernel_rfl)) (OkA.nil))) (OkP.consE (OkE.fun C A.f60 (by kernel_rfl) (OkA.cons (OkE.nm C (by kernel_rfl)) (OkA.nil))) (OkP.nil))) (fun _ _ _ _ _ => pE_nrt) (fun _ => by rfl)
def s2 (F : Fs) : Ro → Mu → Rs Fl := sUnp [6, 7] (evCall 2 (F 59) (aCons (evVar 3) (aCons (evVar 4) (aNil))))
theorem okS2 (C : Cxt g GH.bls n NL' (defScope (GH.top 63)) X) (S : CxS X) (hn : 2 ≤ n) (A : Calls g X n F) (Z : Errs g X) : OkS g X (inB.getD 2 (.Pass ⟨0, 0, 0, 0⟩)) (s2 F) :=
  OkS.unp C S (NmTs.c (by kernel_rfl) (NmTs.c (by kernel_rfl) .nil)) (OkE.fun C A.f59 (by kernel_rfl) (OkA.cons (OkE.nm C (by kernel_rfl)) (OkA.cons (OkE.nm C (by kernel_rfl)) (OkA.nil))))
def s3 (F : Fs) : Ro → Mu → Rs Fl := sUnp [8, 9] (evCall 2 (F 59) (aCons (evVar 3) (aCons (evVar 5) (aNil))))
theorem okS3 (C : Cxt g GH.bls n NL' (defScope (GH.top 63)) X) (S : CxS X) (hn : 2 ≤ n) (A : Calls g X n F) (Z : Errs g X) : OkS g X (inB.getD 3 (.Pass ⟨0, 0, 0, 0⟩)) (s3 F) :=
  OkS.unp C S (NmTs.c (by kernel_rfl) (NmTs.c (by kernel_rfl) .nil)) (OkE.fun C A.f59 (by kernel_rfl) (OkA.cons (OkE.nm C (by kernel_rfl)) (OkA.cons (OkE.nm C (by kernel_rfl)) (OkA.nil))))
def s4 (F : Fs) : Ro → Mu → Rs Fl := sIf (boT .Or (notT (toT (evIsX GH.T "WorldError" (evVar 6)))) (boT .Or (notT (toT (evIsX GH.T "ValueError" (evVar 6)))) (toT (ev2 (cmpK .NotEq) (evCall 1 (F 54) (aCons (evVar 6) (aNil))) (evN (dispL (aCons (evVar 3) (aNil)))))))) (sCons (sRet (evK (.bl false)))
  (sNil)) (sNil)
theorem okS4 (C : Cxt g GH.bls n NL' (defScope (GH.top 63)) X) (S : CxS X) (hn : 2 ≤ n) (A : Calls g X n F) (Z : Errs g X) : OkS g X (inB.getD 4 (.Pass ⟨0, 0, 0, 0⟩)) (s4 F) :=
  OkS.if (OkW.t (OkW.cons (OkT.not (OkT.val C.hK (OkE.isE C Z.t (by kernel_rfl) (C.co (by kernel_rfl) Z.m_WorldError) (OkE.nm C (by kernel_rfl))) (fun _ => by rfl))) (OkW.cons (OkT.not (OkT.val C.hK (OkE.isE C Z.t (by kernel_rfl) (C.cb "ValueError" (by kernel_rfl) (by kernel_rfl) (by decide +kernel) (by decide +kernel)) (OkE.nm C (by kernel_rfl))) (fun _ => by rfl))) (OkW.one (OkT.cmp C (OkE.fun C A.f54 (by kernel_rfl) (OkA.cons (OkE.nm C (by kernel_rfl)) (OkA.nil))) (OkN.e (OkN.lst (OkA.cons (OkE.nm C (by kernel_rfl)) (OkA.nil)))) (by rfl)))))) (OkSs.cons (OkS.ret (OkE.bool))
  (OkSs.nil)) (OkSs.nil)
def s5 (F : Fs) : Ro → Mu → Rs Fl := sIf (boT .Or (toT (evCall 1 (F 56) (aCons (evVar 6) (aNil)))) (boT .Or (toT (evIsXs GH.T ["KeyError", "IndexError", "TypeError"] (evVar 6))) (notT (toT (evIsX GH.T "WorldError" (evVar 8)))))) (sCons (sRet (evK (.bl false)))
  (sNil)) (sNil)
theorem okS5 (C : Cxt g GH.bls n NL' (defScope (GH.top 63)) X) (S : CxS X) (hn : 2 ≤ n) (A : Calls g X n F) (Z : Errs g X) : OkS g X (inB.getD 5 (.Pass ⟨0, 0, 0, 0⟩)) (s5 F) :=
  OkS.if (OkW.t (OkW.cons (OkT.val C.hK (OkE.fun C A.f56 (by kernel_rfl) (OkA.cons (OkE.nm C (by kernel_rfl)) (OkA.nil))) (fun _ => by rfl)) (OkW.cons (OkT.val C.hK (OkE.isEs "KeyError" C Z.t Z.k (by kernel_rfl) (.cons (C.cb "KeyError" (by kernel_rfl) (by kernel_rfl) (by decide +kernel) (by decide +kernel)) (.cons (C.cb "IndexError" (by kernel_rfl) (by kernel_rfl) (by decide +kernel) (by decide +kernel)) (.cons (C.cb "TypeError" (by kernel_rfl) (by kernel_rfl) (by decide +kernel) (by decide +kernel)) .nil))) (by decide) rfl (OkE.nm C (by kernel_rfl))) (fun _ => by rfl)) (OkW.one (OkT.not (OkT.val C.hK (OkE.isE C Z.t (by kernel_rfl) (C.co (by kernel_rfl) Z.m_WorldError) (OkE.nm C (by kernel_rfl))) (fun _ => by rfl))))))) (OkSs.cons (OkS.ret (OkE.bool))
  (OkSs.nil)) (OkSs.nil)
open Classical in
noncomputable def rV (k : Nat) (ρ : Ro) (μ : Mu) : Rs Fl := if (∃ v w d d', (ρ[7]? = some (.val (ofV v)) ∨ ρ[7]? = some (.val (.lab v d))) ∧ ρ[4]? = some (.val (.lab v d)) ∧ (ρ[9]? = some (.val (ofV w)) ∨ ρ[9]? = some (.val (.lab w d'))) ∧ ρ[5]? = some (.val (.lab w d')) ∧ objD "a" d = true ∧ objD "a" d' = true ∧ newD k d = true ∧ newD k d' = true) then .ok .nx ρ μ else .no
def resR (ρ : Ro) : Ro := (((((((ρ.set 3 .un).set 4 .un).set 5 .un).set 6 .un).set 7 .un).set 8 .un).set 9 .un)
noncomputable def midR (F : Fs) (k : Nat) : Ro → Mu → Rs Fl := fun ρ μ => (sCons (s2 F) (sCons (s3 F) (sCons (s4 F) (sCons (s5 F) (rV k))))) ρ μ
def RLc (F : Fs) (k : Nat) (ρ : Ro) (μ : Mu) : Prop := labOk 4 ρ = true ∧ labOk 5 ρ = true ∧ ∀ v w, ∃ ρ1, midR F k (lab1 5 w (lab1 4 v ρ)) μ = .ok .nx ρ1 μ ∧ Fgt ρ1 (resR ρ)
open Classical in
noncomputable def rL (F : Fs) (k : Nat) (ρ : Ro) (μ : Mu) : Rs Fl := if RLc F k ρ μ then .ok .nx (resR ρ) μ else .no
noncomputable def turnR (F : Fs) : Ro → Mu → Rs Fl := fun ρ μ => aEra (fun k => sCons (s0 F) (sCons (s1 F) (rL F k))) μ.ec ρ μ
theorem okIn (C : Cxt g GH.bls n NL' (defScope (GH.top 63)) X) (S : CxS X) (hn : 2 ≤ n) (A : Calls g X n F) (Z : Errs g X) (V : FunV g X n "_law_very" "a") : OkSs g X inB (turnR F) := by
  have VV : OkAS g X (inB.drop 6) rV := by
    refine OkAS.veryL C V (by kernel_rfl) (i1 := 7) (i2 := 4) (i3 := 9) (i4 := 5) (by kernel_rfl) (by kernel_rfl) (by kernel_rfl) (by kernel_rfl) (by rfl) (by rfl) (by rfl) (by rfl) (by rfl) (by rfl) rV ?_ ?_
    · intro k ρ μ x fs ρ' μ' h
      unfold rV at h
      split at h <;> cases h
    · intro k ρ μ o ρ' μ' h
      unfold rV at h
      split at h
      · rename_i q
        cases h
        exact ⟨rfl, rfl, Fgt.refl _, q⟩
      · cases h
  have MM : OkAS g X (inB.drop 2) (midR F) := (OkAS.cons (okS2 C S hn A Z) (OkAS.cons (okS3 C S hn A Z) (OkAS.cons (okS4 C S hn A Z) (OkAS.cons (okS5 C S hn A Z) VV))))
  refine OkAS.fin (OkAS.era (OkAS.cons (okS0 C S hn A Z) (OkAS.cons (okS1 C S hn A Z) (OkAS.lab (i := 4) (j := 5) (r := rL F) MM ?_ ?_))))
  · intro k ρ μ x fs ρ' μ' h
    unfold rL at h
    split at h <;> cases h
  · intro k ρ μ o ρ' μ' h
    unfold rL at h
    split at h
    · rename_i q
      cases h
      exact q
    · cases h
def cF (F : Fs) : List D → Mu → Rf := fun ds μ => (b62 F (rho0 N62.length ds) μ).fin

def N63 : List Str := (["script", "state", "k", "at", "one", "two", "made", "kept", "other", "others", "e"] : List String).map Str.ofString
noncomputable def b63 (F : Fs) : Ro → Mu → Rs Fl := sCons (sFor (evR1 (evK (.int 24))) (tNm 2) (turnR F))
  (sCons (sIf (notT (toT (evC kAll (aCons (evN (evLc (evIt (evCall 1 (F 55) (aCons (evCall 2 (F 51) (aCons (evVar 1) (aCons (evK (.int 9)) (aNil)))) (aNil)))) (tNm 10) (evYes) (ev2 (cmpK .Eq) (evCall 1 (F 54) (aCons (evVar 10) (aNil))) (evN (dispL (aNil)))) [10])) (aNil))))) (sCons (sRet (evK (.bl false)))
  (sNil)) (sNil))
  (sCons (sRet (ev2 (cmpK .Eq) (evCall 1 (cF F) (aCons (evCall 1 (F 60) (aCons (evVar 1) (aNil))) (aNil))) (dispT (aCons (evN (dispL (aCons (evK (.int 4)) (aNil)))) (aCons (evN (dispL (aNil))) (aCons (evK (.bl false)) (aCons (evK (.bl true)) (aNil))))))))
  (sNil)))
theorem ok63 (C : Cxt g GH.bls n N63 (defScope (GH.top 63)) X) (S : CxS X) (hn : 2 ≤ n) (A : Calls g X n F) (Z : Errs g X) (V : FunV g X n "_law_very" "a") (VC : Fun g X n "_law_caught" 1 (cF F)) : OkSs g X ((defBody (GH.top 63)).drop 1) (b63 F) :=
  OkSs.cons (OkS.for C S (OkI.r1 C (by kernel_rfl) (OkE.int)) (OkG.nm_ C S (by kernel_rfl)) (okIn C S hn A Z V))
  (OkSs.cons (OkS.if (OkT.not (OkT.val C.hK (OkE.all_ C (by kernel_rfl) (OkA.cons (OkN.e (OkN.lcn [("e", 10)] C (by kernel_rfl) (OkI.any C.hK (OkE.fun C A.f55 (by kernel_rfl) (OkA.cons (OkE.fun C A.f51 (by kernel_rfl) (OkA.cons (OkE.nm C (by kernel_rfl)) (OkA.cons (OkE.int) (OkA.nil)))) (OkA.nil)))) ⟨fun _ _ _ _ _ => OkG.nl C.blk (by kernel_rfl), fun _ _ _ _ _ => OkTs.nil, fun _ _ _ _ _ => OkE.cmp C.blk (OkE.fun C.blk A.f54.blk (by kernel_rfl) (OkA.cons (OkE.nm C.blk (by kernel_rfl)) (OkA.nil))) (OkN.e (OkN.lst (OkA.nil))) (by rfl), by decide⟩)) (OkA.nil))) (fun _ => by rfl))) (OkSs.cons (OkS.ret (OkE.bool))
  (OkSs.nil)) (OkSs.nil))
  (OkSs.cons (OkS.ret (OkE.cmp C (OkE.fun C VC (by kernel_rfl) (OkA.cons (OkE.fun C A.f60 (by kernel_rfl) (OkA.cons (OkE.nm C (by kernel_rfl)) (OkA.nil))) (OkA.nil))) (OkE.tup (OkA.cons (OkN.e (OkN.lst (OkA.cons (OkE.int) (OkA.nil)))) (OkA.cons (OkN.e (OkN.lst (OkA.nil))) (OkA.cons (OkE.bool) (OkA.cons (OkE.bool) (OkA.nil)))))) (by rfl)))
  (OkSs.nil)))
end
end GL

set_option maxHeartbeats 0
namespace GL
open PySem PySem.Spec PyProof.Rows L2 GW
def FF : Nat → Fs
  | 0 => fun _ _ _ => .no
  | k + 1 => fun i ds μ => if k < 2 then .no else match i with
    | 51 => (b51 (FF k) (rho0 N51.length ds) μ).fin
    | 52 => (b52 (FF k) (rho0 N52.length ds) μ).fin
    | 53 => (b53 (FF k) (rho0 N53.length ds) μ).fin
    | 54 => (b54 (FF k) (rho0 N54.length ds) μ).fin
    | 55 => (b55 (FF k) (rho0 N55.length ds) μ).fin
    | 56 => (b56 (FF k) (rho0 N56.length ds) μ).fin
    | 57 => (b57 (FF k) (rho0 N57.length ds) μ).fin
    | 58 => (b58 (FF k) (rho0 N58.length ds) μ).fin
    | 59 => (b59 (FF k) (rho0 N59.length ds) μ).fin
    | 60 => (b60 (FF k) (rho0 N60.length ds) μ).fin
    | _ => .no
section
variable {P : Program} {w : World} {base h : Heap} {g : Gd} {X : Cx}
structure CallsA (P : Program) (w : World) (base : Heap) (g : Gd) (k : Nat) : Prop where
  f50 : FunA P w base g k "_law_start" 1 (FF k 50)
  f51 : FunA P w base g k "_law_pick" 2 (FF k 51)
  f52 : FunA P w base g k "_law_between" 3 (FF k 52)
  f53 : FunA P w base g k "_law_same" 2 (FF k 53)
  f54 : FunA P w base g k "_law_kinds_of" 1 (FF k 54)
  f55 : FunA P w base g k "_law_others" 1 (FF k 55)
  f56 : FunA P w base g k "_law_is_other" 1 (FF k 56)
  f57 : FunA P w base g k "_law_made_a" 2 (FF k 57)
  f58 : FunA P w base g k "_law_made_b" 2 (FF k 58)
  f59 : FunA P w base g k "_law_made_at" 2 (FF k 59)
  f60 : FunA P w base g k "_law_object" 1 (FF k 60)
  f61 : FunA P w base g k "_law_very" 2 (FF k 61)
  f62 : FunA P w base g k "_law_caught" 1 (FF k 62)
theorem CallsA.to {k : Nat} (h : CallsA P w base g k) (h1 : X.prog = P) (h2 : X.w = w) (h3 : X.base = base) (h4 : X.K = g.K) (h5 : X.mg = g.mg) : Calls g X k (FF k) := ⟨h.f50.to h1 h2 h3 h4 h5, h.f51.to h1 h2 h3 h4 h5, h.f52.to h1 h2 h3 h4 h5, h.f53.to h1 h2 h3 h4 h5, h.f54.to h1 h2 h3 h4 h5, h.f55.to h1 h2 h3 h4 h5, h.f56.to h1 h2 h3 h4 h5, h.f57.to h1 h2 h3 h4 h5, h.f58.to h1 h2 h3 h4 h5, h.f59.to h1 h2 h3 h4 h5, h.f60.to h1 h2 h3 h4 h5, h.f61.to h1 h2 h3 h4 h5, h.f62.to h1 h2 h3 h4 h5⟩
theorem xs_mem : ∀ x y b, GH.T x y = some b → x ∈ GH.xs ∧ ∃ o, (y, o) ∈ GH.asked := fun x y b h => tabT_mem (asked := GH.asked) (tabL := GH.tabL) h
variable (KX : g.K.In h) (G : h.Ns mainGlobals g.mg) (c : He.SaysX GH.fa GH.fn [] [] GH.ex w h g.K)
include KX G c
theorem xs_glo : ∀ x ∈ GH.xs, g.mg x = some (.ref (He.ga g.K x)) := glo_all KX G c.t.d (by kernel_rfl)
theorem bl_free : ∀ x ∈ GH.bls, g.mg x = none := free_all KX G c.t.d (by kernel_rfl)
theorem hdx : HdX g GH.T GH.xs GH.asked GH.flds GH.zero := HdX.of c.more
theorem errs_of (hK : X.K = g.K) (hm : X.mg = g.mg) : Errs g X := {
    m_WorldError := ⟨_, (He.glo_ok KX G (c.t.d.fact 14 (f := .glo "WorldError") rfl))⟩
    m_BadEdit := ⟨_, (He.glo_ok KX G (c.t.d.fact 31 (f := .glo "BadEdit") rfl))⟩
    m_BadDeskText := ⟨_, (He.glo_ok KX G (c.t.d.fact 33 (f := .glo "BadDeskText") rfl))⟩
    m_BadPrices := ⟨_, (He.glo_ok KX G (c.t.d.fact 24 (f := .glo "BadPrices") rfl))⟩
    m_BadWishes := ⟨_, (He.glo_ok KX G (c.t.d.fact 25 (f := .glo "BadWishes") rfl))⟩
    m_BadLevels := ⟨_, (He.glo_ok KX G (c.t.d.fact 26 (f := .glo "BadLevels") rfl))⟩
    m_NotStraight := ⟨_, (He.glo_ok KX G (c.t.d.fact 27 (f := .glo "NotStraight") rfl))⟩
    m_BadOther := ⟨_, (He.glo_ok KX G (c.t.d.fact 15 (f := .glo "BadOther") rfl))⟩
    m_BadProof := ⟨_, (He.glo_ok KX G (c.t.d.fact 16 (f := .glo "BadProof") rfl))⟩
    m_BadPath := ⟨_, (He.glo_ok KX G (c.t.d.fact 17 (f := .glo "BadPath") rfl))⟩
    m_BadFormulas := ⟨_, (He.glo_ok KX G (c.t.d.fact 18 (f := .glo "BadFormulas") rfl))⟩
    m_BadTerm := ⟨_, (He.glo_ok KX G (c.t.d.fact 19 (f := .glo "BadTerm") rfl))⟩
    m_BadMore := ⟨_, (He.glo_ok KX G (c.t.d.fact 20 (f := .glo "BadMore") rfl))⟩
    m_BadTheirs := ⟨_, (He.glo_ok KX G (c.t.d.fact 21 (f := .glo "BadTheirs") rfl))⟩
    m_BadAnswer := ⟨_, (He.glo_ok KX G (c.t.d.fact 22 (f := .glo "BadAnswer") rfl))⟩
    m_BadAsks := ⟨_, (He.glo_ok KX G (c.t.d.fact 28 (f := .glo "BadAsks") rfl))⟩
    m_NotApart := ⟨_, (He.glo_ok KX G (c.t.d.fact 29 (f := .glo "NotApart") rfl))⟩
    m_BadStrategy := ⟨_, (He.glo_ok KX G (c.t.d.fact 30 (f := .glo "BadStrategy") rfl))⟩
    m_BadDesk := ⟨_, (He.glo_ok KX G (c.t.d.fact 32 (f := .glo "BadDesk") rfl))⟩
    m_NothingToUndo := ⟨_, (He.glo_ok KX G (c.t.d.fact 34 (f := .glo "NothingToUndo") rfl))⟩
    m_NothingToRedo := ⟨_, (He.glo_ok KX G (c.t.d.fact 35 (f := .glo "NothingToRedo") rfl))⟩
    m_BadWholeText := ⟨_, (He.glo_ok KX G (c.t.d.fact 23 (f := .glo "BadWholeText") rfl))⟩
    m_BadFormula := ⟨_, (He.glo_ok KX G (c.t.d.fact 36 (f := .glo "BadFormula") rfl))⟩
    m_BadGoal := ⟨_, (He.glo_ok KX G (c.t.d.fact 37 (f := .glo "BadGoal") rfl))⟩
    m_BadHeap := ⟨_, (He.glo_ok KX G (c.t.d.fact 38 (f := .glo "BadHeap") rfl))⟩
    m_BadWorld := ⟨_, (He.glo_ok KX G (c.t.d.fact 39 (f := .glo "BadWorld") rfl))⟩
    m_BadPlace := ⟨_, (He.glo_ok KX G (c.t.d.fact 40 (f := .glo "BadPlace") rfl))⟩
    m_BadPart := ⟨_, (He.glo_ok KX G (c.t.d.fact 41 (f := .glo "BadPart") rfl))⟩
    m_BadFormulaText := ⟨_, (He.glo_ok KX G (c.t.d.fact 42 (f := .glo "BadFormulaText") rfl))⟩
    m_BadHeapText := ⟨_, (He.glo_ok KX G (c.t.d.fact 43 (f := .glo "BadHeapText") rfl))⟩
    m_BadWorldText := ⟨_, (He.glo_ok KX G (c.t.d.fact 44 (f := .glo "BadWorldText") rfl))⟩
    m_BadSome := ⟨_, (He.glo_ok KX G (c.t.d.fact 45 (f := .glo "BadSome") rfl))⟩
    m_BadOthers := ⟨_, (He.glo_ok KX G (c.t.d.fact 46 (f := .glo "BadOthers") rfl))⟩
    m_BadSets := ⟨_, (He.glo_ok KX G (c.t.d.fact 47 (f := .glo "BadSets") rfl))⟩
    m_BadWord := ⟨_, (He.glo_ok KX G (c.t.d.fact 48 (f := .glo "BadWord") rfl))⟩
    m_BadNumber := ⟨_, (He.glo_ok KX G (c.t.d.fact 49 (f := .glo "BadNumber") rfl))⟩
    m_BadTold := ⟨_, (He.glo_ok KX G (c.t.d.fact 50 (f := .glo "BadTold") rfl))⟩
    m_BadWords := ⟨_, (He.glo_ok KX G (c.t.d.fact 51 (f := .glo "BadWords") rfl))⟩
    m_BadWorlds := ⟨_, (He.glo_ok KX G (c.t.d.fact 52 (f := .glo "BadWorlds") rfl))⟩
    m_BadMany := ⟨_, (He.glo_ok KX G (c.t.d.fact 53 (f := .glo "BadMany") rfl))⟩
    m_BadHeight := ⟨_, (He.glo_ok KX G (c.t.d.fact 54 (f := .glo "BadHeight") rfl))⟩
    m_BadFull := ⟨_, (He.glo_ok KX G (c.t.d.fact 55 (f := .glo "BadFull") rfl))⟩
    m_TwoAlike := ⟨_, (He.glo_ok KX G (c.t.d.fact 56 (f := .glo "TwoAlike") rfl))⟩
    m_BadWeave := ⟨_, (He.glo_ok KX G (c.t.d.fact 57 (f := .glo "BadWeave") rfl))⟩
    m_BadName := ⟨_, (He.glo_ok KX G (c.t.d.fact 58 (f := .glo "BadName") rfl))⟩
    m_NotClearing := ⟨_, (He.glo_ok KX G (c.t.d.fact 59 (f := .glo "NotClearing") rfl))⟩
    z_WorldError := exc0B_ok (by rw [hK]; exact (hdx KX G c).zer "WorldError" (List.mem_of_getElem? (i := 0) rfl)) (by rw [hK, hm]; exact (He.glo_ok KX G (c.t.d.fact 14 (f := .glo "WorldError") rfl)))
    x_BadOther := by
      obtain ⟨fd, D⟩ := c.t.d.def_ 14 (d := GH.mkI "BadOther" 2) rfl
      exact excB_ok (N := []) (self := "self") (f := "other") (by rw [hK]; exact (hdx KX G c).fld ("BadOther", "other") (List.mem_of_getElem? (i := 0) rfl)) (by rw [hK, hm]; exact (He.glo_ok KX G (c.t.d.fact 15 (f := .glo "BadOther") rfl))) (by rw [hK]; exact D) rfl ⟨rfl, rfl, rfl, by decide +kernel, rfl, by decide +kernel, by decide +kernel⟩ (by decide +kernel) (by decide +kernel) (by decide +kernel) (by decide +kernel) (visB_ok (by kernel_rfl)) (visB_ok (by kernel_rfl)) (fun _ _ _ _ _ _ us hl => match us, hl with | [_, _], _ => rfl) (fun _ _ _ _ _ _ _ _ => rfl)
    x_BadProof := by
      obtain ⟨fd, D⟩ := c.t.d.def_ 15 (d := GH.mkI "BadProof" 3) rfl
      exact excB_ok (N := []) (self := "self") (f := "proof") (by rw [hK]; exact (hdx KX G c).fld ("BadProof", "proof") (List.mem_of_getElem? (i := 1) rfl)) (by rw [hK, hm]; exact (He.glo_ok KX G (c.t.d.fact 16 (f := .glo "BadProof") rfl))) (by rw [hK]; exact D) rfl ⟨rfl, rfl, rfl, by decide +kernel, rfl, by decide +kernel, by decide +kernel⟩ (by decide +kernel) (by decide +kernel) (by decide +kernel) (by decide +kernel) (visB_ok (by kernel_rfl)) (visB_ok (by kernel_rfl)) (fun _ _ _ _ _ _ us hl => match us, hl with | [_, _], _ => rfl) (fun _ _ _ _ _ _ _ _ => rfl)
    x_BadPath := by
      obtain ⟨fd, D⟩ := c.t.d.def_ 16 (d := GH.mkI "BadPath" 4) rfl
      exact excB_ok (N := []) (self := "self") (f := "path") (by rw [hK]; exact (hdx KX G c).fld ("BadPath", "path") (List.mem_of_getElem? (i := 2) rfl)) (by rw [hK, hm]; exact (He.glo_ok KX G (c.t.d.fact 17 (f := .glo "BadPath") rfl))) (by rw [hK]; exact D) rfl ⟨rfl, rfl, rfl, by decide +kernel, rfl, by decide +kernel, by decide +kernel⟩ (by decide +kernel) (by decide +kernel) (by decide +kernel) (by decide +kernel) (visB_ok (by kernel_rfl)) (visB_ok (by kernel_rfl)) (fun _ _ _ _ _ _ us hl => match us, hl with | [_, _], _ => rfl) (fun _ _ _ _ _ _ _ _ => rfl)
    x_BadFormulas := by
      obtain ⟨fd, D⟩ := c.t.d.def_ 17 (d := GH.mkI "BadFormulas" 5) rfl
      exact excB_ok (N := []) (self := "self") (f := "index") (by rw [hK]; exact (hdx KX G c).fld ("BadFormulas", "index") (List.mem_of_getElem? (i := 3) rfl)) (by rw [hK, hm]; exact (He.glo_ok KX G (c.t.d.fact 18 (f := .glo "BadFormulas") rfl))) (by rw [hK]; exact D) rfl ⟨rfl, rfl, rfl, by decide +kernel, rfl, by decide +kernel, by decide +kernel⟩ (by decide +kernel) (by decide +kernel) (by decide +kernel) (by decide +kernel) (visB_ok (by kernel_rfl)) (visB_ok (by kernel_rfl)) (fun _ _ _ _ _ _ us hl => match us, hl with | [_, _], _ => rfl) (fun _ _ _ _ _ _ _ _ => rfl)
    x_BadTerm := by
      obtain ⟨fd, D⟩ := c.t.d.def_ 18 (d := GH.mkI "BadTerm" 6) rfl
      exact excB_ok (N := []) (self := "self") (f := "term") (by rw [hK]; exact (hdx KX G c).fld ("BadTerm", "term") (List.mem_of_getElem? (i := 4) rfl)) (by rw [hK, hm]; exact (He.glo_ok KX G (c.t.d.fact 19 (f := .glo "BadTerm") rfl))) (by rw [hK]; exact D) rfl ⟨rfl, rfl, rfl, by decide +kernel, rfl, by decide +kernel, by decide +kernel⟩ (by decide +kernel) (by decide +kernel) (by decide +kernel) (by decide +kernel) (visB_ok (by kernel_rfl)) (visB_ok (by kernel_rfl)) (fun _ _ _ _ _ _ us hl => match us, hl with | [_, _], _ => rfl) (fun _ _ _ _ _ _ _ _ => rfl)
    x_BadMore := by
      obtain ⟨fd, D⟩ := c.t.d.def_ 19 (d := GH.mkI "BadMore" 7) rfl
      exact excB_ok (N := []) (self := "self") (f := "more") (by rw [hK]; exact (hdx KX G c).fld ("BadMore", "more") (List.mem_of_getElem? (i := 5) rfl)) (by rw [hK, hm]; exact (He.glo_ok KX G (c.t.d.fact 20 (f := .glo "BadMore") rfl))) (by rw [hK]; exact D) rfl ⟨rfl, rfl, rfl, by decide +kernel, rfl, by decide +kernel, by decide +kernel⟩ (by decide +kernel) (by decide +kernel) (by decide +kernel) (by decide +kernel) (visB_ok (by kernel_rfl)) (visB_ok (by kernel_rfl)) (fun _ _ _ _ _ _ us hl => match us, hl with | [_, _], _ => rfl) (fun _ _ _ _ _ _ _ _ => rfl)
    x_BadTheirs := by
      obtain ⟨fd, D⟩ := c.t.d.def_ 20 (d := GH.mkI "BadTheirs" 8) rfl
      exact excB_ok (N := []) (self := "self") (f := "index") (by rw [hK]; exact (hdx KX G c).fld ("BadTheirs", "index") (List.mem_of_getElem? (i := 6) rfl)) (by rw [hK, hm]; exact (He.glo_ok KX G (c.t.d.fact 21 (f := .glo "BadTheirs") rfl))) (by rw [hK]; exact D) rfl ⟨rfl, rfl, rfl, by decide +kernel, rfl, by decide +kernel, by decide +kernel⟩ (by decide +kernel) (by decide +kernel) (by decide +kernel) (by decide +kernel) (visB_ok (by kernel_rfl)) (visB_ok (by kernel_rfl)) (fun _ _ _ _ _ _ us hl => match us, hl with | [_, _], _ => rfl) (fun _ _ _ _ _ _ _ _ => rfl)
    x_BadAnswer := by
      obtain ⟨fd, D⟩ := c.t.d.def_ 21 (d := GH.mkI "BadAnswer" 9) rfl
      exact excB_ok (N := []) (self := "self") (f := "answer") (by rw [hK]; exact (hdx KX G c).fld ("BadAnswer", "answer") (List.mem_of_getElem? (i := 7) rfl)) (by rw [hK, hm]; exact (He.glo_ok KX G (c.t.d.fact 22 (f := .glo "BadAnswer") rfl))) (by rw [hK]; exact D) rfl ⟨rfl, rfl, rfl, by decide +kernel, rfl, by decide +kernel, by decide +kernel⟩ (by decide +kernel) (by decide +kernel) (by decide +kernel) (by decide +kernel) (visB_ok (by kernel_rfl)) (visB_ok (by kernel_rfl)) (fun _ _ _ _ _ _ us hl => match us, hl with | [_, _], _ => rfl) (fun _ _ _ _ _ _ _ _ => rfl)
    x_BadWholeText := by
      obtain ⟨fd, D⟩ := c.t.d.def_ 22 (d := GH.mkI "BadWholeText" 10) rfl
      exact excB_ok (N := []) (self := "self") (f := "line") (by rw [hK]; exact (hdx KX G c).fld ("BadWholeText", "line") (List.mem_of_getElem? (i := 8) rfl)) (by rw [hK, hm]; exact (He.glo_ok KX G (c.t.d.fact 23 (f := .glo "BadWholeText") rfl))) (by rw [hK]; exact D) rfl ⟨rfl, rfl, rfl, by decide +kernel, rfl, by decide +kernel, by decide +kernel⟩ (by decide +kernel) (by decide +kernel) (by decide +kernel) (by decide +kernel) (visB_ok (by kernel_rfl)) (visB_ok (by kernel_rfl)) (fun _ _ _ _ _ _ us hl => match us, hl with | [_, _], _ => rfl) (fun _ _ _ _ _ _ _ _ => rfl)
    x_BadPrices := by
      obtain ⟨fd, D⟩ := c.t.d.def_ 23 (d := GH.mkI "BadPrices" 12) rfl
      exact excB_ok (N := []) (self := "self") (f := "prices") (by rw [hK]; exact (hdx KX G c).fld ("BadPrices", "prices") (List.mem_of_getElem? (i := 9) rfl)) (by rw [hK, hm]; exact (He.glo_ok KX G (c.t.d.fact 24 (f := .glo "BadPrices") rfl))) (by rw [hK]; exact D) rfl ⟨rfl, rfl, rfl, by decide +kernel, rfl, by decide +kernel, by decide +kernel⟩ (by decide +kernel) (by decide +kernel) (by decide +kernel) (by decide +kernel) (visB_ok (by kernel_rfl)) (visB_ok (by kernel_rfl)) (fun _ _ _ _ _ _ us hl => match us, hl with | [_, _], _ => rfl) (fun _ _ _ _ _ _ _ _ => rfl)
    x_BadWishes := by
      obtain ⟨fd, D⟩ := c.t.d.def_ 24 (d := GH.mkI "BadWishes" 13) rfl
      exact excB_ok (N := []) (self := "self") (f := "index") (by rw [hK]; exact (hdx KX G c).fld ("BadWishes", "index") (List.mem_of_getElem? (i := 10) rfl)) (by rw [hK, hm]; exact (He.glo_ok KX G (c.t.d.fact 25 (f := .glo "BadWishes") rfl))) (by rw [hK]; exact D) rfl ⟨rfl, rfl, rfl, by decide +kernel, rfl, by decide +kernel, by decide +kernel⟩ (by decide +kernel) (by decide +kernel) (by decide +kernel) (by decide +kernel) (visB_ok (by kernel_rfl)) (visB_ok (by kernel_rfl)) (fun _ _ _ _ _ _ us hl => match us, hl with | [_, _], _ => rfl) (fun _ _ _ _ _ _ _ _ => rfl)
    x_BadLevels := by
      obtain ⟨fd, D⟩ := c.t.d.def_ 25 (d := GH.mkI "BadLevels" 14) rfl
      exact excB_ok (N := []) (self := "self") (f := "levels") (by rw [hK]; exact (hdx KX G c).fld ("BadLevels", "levels") (List.mem_of_getElem? (i := 11) rfl)) (by rw [hK, hm]; exact (He.glo_ok KX G (c.t.d.fact 26 (f := .glo "BadLevels") rfl))) (by rw [hK]; exact D) rfl ⟨rfl, rfl, rfl, by decide +kernel, rfl, by decide +kernel, by decide +kernel⟩ (by decide +kernel) (by decide +kernel) (by decide +kernel) (by decide +kernel) (visB_ok (by kernel_rfl)) (visB_ok (by kernel_rfl)) (fun _ _ _ _ _ _ us hl => match us, hl with | [_, _], _ => rfl) (fun _ _ _ _ _ _ _ _ => rfl)
    x_NotStraight := by
      obtain ⟨fd, D⟩ := c.t.d.def_ 26 (d := GH.mkI "NotStraight" 15) rfl
      exact excB_ok (N := []) (self := "self") (f := "index") (by rw [hK]; exact (hdx KX G c).fld ("NotStraight", "index") (List.mem_of_getElem? (i := 12) rfl)) (by rw [hK, hm]; exact (He.glo_ok KX G (c.t.d.fact 27 (f := .glo "NotStraight") rfl))) (by rw [hK]; exact D) rfl ⟨rfl, rfl, rfl, by decide +kernel, rfl, by decide +kernel, by decide +kernel⟩ (by decide +kernel) (by decide +kernel) (by decide +kernel) (by decide +kernel) (visB_ok (by kernel_rfl)) (visB_ok (by kernel_rfl)) (fun _ _ _ _ _ _ us hl => match us, hl with | [_, _], _ => rfl) (fun _ _ _ _ _ _ _ _ => rfl)
    x_BadAsks := by
      obtain ⟨fd, D⟩ := c.t.d.def_ 27 (d := GH.mkI "BadAsks" 16) rfl
      exact excB_ok (N := []) (self := "self") (f := "index") (by rw [hK]; exact (hdx KX G c).fld ("BadAsks", "index") (List.mem_of_getElem? (i := 13) rfl)) (by rw [hK, hm]; exact (He.glo_ok KX G (c.t.d.fact 28 (f := .glo "BadAsks") rfl))) (by rw [hK]; exact D) rfl ⟨rfl, rfl, rfl, by decide +kernel, rfl, by decide +kernel, by decide +kernel⟩ (by decide +kernel) (by decide +kernel) (by decide +kernel) (by decide +kernel) (visB_ok (by kernel_rfl)) (visB_ok (by kernel_rfl)) (fun _ _ _ _ _ _ us hl => match us, hl with | [_, _], _ => rfl) (fun _ _ _ _ _ _ _ _ => rfl)
    x_NotApart := by
      obtain ⟨fd, D⟩ := c.t.d.def_ 28 (d := GH.mkI "NotApart" 17) rfl
      exact excB_ok (N := []) (self := "self") (f := "index") (by rw [hK]; exact (hdx KX G c).fld ("NotApart", "index") (List.mem_of_getElem? (i := 14) rfl)) (by rw [hK, hm]; exact (He.glo_ok KX G (c.t.d.fact 29 (f := .glo "NotApart") rfl))) (by rw [hK]; exact D) rfl ⟨rfl, rfl, rfl, by decide +kernel, rfl, by decide +kernel, by decide +kernel⟩ (by decide +kernel) (by decide +kernel) (by decide +kernel) (by decide +kernel) (visB_ok (by kernel_rfl)) (visB_ok (by kernel_rfl)) (fun _ _ _ _ _ _ us hl => match us, hl with | [_, _], _ => rfl) (fun _ _ _ _ _ _ _ _ => rfl)
    x_BadStrategy := by
      obtain ⟨fd, D⟩ := c.t.d.def_ 29 (d := GH.mkI "BadStrategy" 18) rfl
      exact excB_ok (N := []) (self := "self") (f := "strategy") (by rw [hK]; exact (hdx KX G c).fld ("BadStrategy", "strategy") (List.mem_of_getElem? (i := 15) rfl)) (by rw [hK, hm]; exact (He.glo_ok KX G (c.t.d.fact 30 (f := .glo "BadStrategy") rfl))) (by rw [hK]; exact D) rfl ⟨rfl, rfl, rfl, by decide +kernel, rfl, by decide +kernel, by decide +kernel⟩ (by decide +kernel) (by decide +kernel) (by decide +kernel) (by decide +kernel) (visB_ok (by kernel_rfl)) (visB_ok (by kernel_rfl)) (fun _ _ _ _ _ _ us hl => match us, hl with | [_, _], _ => rfl) (fun _ _ _ _ _ _ _ _ => rfl)
    x_BadEdit := by
      obtain ⟨fd, D⟩ := c.t.d.def_ 30 (d := GH.mkI "BadEdit" 19) rfl
      exact excB_ok (N := []) (self := "self") (f := "edit") (by rw [hK]; exact (hdx KX G c).fld ("BadEdit", "edit") (List.mem_of_getElem? (i := 16) rfl)) (by rw [hK, hm]; exact (He.glo_ok KX G (c.t.d.fact 31 (f := .glo "BadEdit") rfl))) (by rw [hK]; exact D) rfl ⟨rfl, rfl, rfl, by decide +kernel, rfl, by decide +kernel, by decide +kernel⟩ (by decide +kernel) (by decide +kernel) (by decide +kernel) (by decide +kernel) (visB_ok (by kernel_rfl)) (visB_ok (by kernel_rfl)) (fun _ _ _ _ _ _ us hl => match us, hl with | [_, _], _ => rfl) (fun _ _ _ _ _ _ _ _ => rfl)
    x_BadDesk := by
      obtain ⟨fd, D⟩ := c.t.d.def_ 31 (d := GH.mkI "BadDesk" 20) rfl
      exact excB_ok (N := []) (self := "self") (f := "desk") (by rw [hK]; exact (hdx KX G c).fld ("BadDesk", "desk") (List.mem_of_getElem? (i := 17) rfl)) (by rw [hK, hm]; exact (He.glo_ok KX G (c.t.d.fact 32 (f := .glo "BadDesk") rfl))) (by rw [hK]; exact D) rfl ⟨rfl, rfl, rfl, by decide +kernel, rfl, by decide +kernel, by decide +kernel⟩ (by decide +kernel) (by decide +kernel) (by decide +kernel) (by decide +kernel) (visB_ok (by kernel_rfl)) (visB_ok (by kernel_rfl)) (fun _ _ _ _ _ _ us hl => match us, hl with | [_, _], _ => rfl) (fun _ _ _ _ _ _ _ _ => rfl)
    x_BadDeskText := by
      obtain ⟨fd, D⟩ := c.t.d.def_ 32 (d := GH.mkI "BadDeskText" 21) rfl
      exact excB_ok (N := []) (self := "self") (f := "line") (by rw [hK]; exact (hdx KX G c).fld ("BadDeskText", "line") (List.mem_of_getElem? (i := 18) rfl)) (by rw [hK, hm]; exact (He.glo_ok KX G (c.t.d.fact 33 (f := .glo "BadDeskText") rfl))) (by rw [hK]; exact D) rfl ⟨rfl, rfl, rfl, by decide +kernel, rfl, by decide +kernel, by decide +kernel⟩ (by decide +kernel) (by decide +kernel) (by decide +kernel) (by decide +kernel) (visB_ok (by kernel_rfl)) (visB_ok (by kernel_rfl)) (fun _ _ _ _ _ _ us hl => match us, hl with | [_, _], _ => rfl) (fun _ _ _ _ _ _ _ _ => rfl)
    z_NothingToUndo := exc0B_ok (by rw [hK]; exact (hdx KX G c).zer "NothingToUndo" (List.mem_of_getElem? (i := 1) rfl)) (by rw [hK, hm]; exact (He.glo_ok KX G (c.t.d.fact 34 (f := .glo "NothingToUndo") rfl)))
    z_NothingToRedo := exc0B_ok (by rw [hK]; exact (hdx KX G c).zer "NothingToRedo" (List.mem_of_getElem? (i := 2) rfl)) (by rw [hK, hm]; exact (He.glo_ok KX G (c.t.d.fact 35 (f := .glo "NothingToRedo") rfl)))
    x_BadFormula := by
      obtain ⟨fd, D⟩ := c.t.d.def_ 33 (d := GH.mkI "BadFormula" 25) rfl
      exact excB_ok (N := []) (self := "self") (f := "formula") (by rw [hK]; exact (hdx KX G c).fld ("BadFormula", "formula") (List.mem_of_getElem? (i := 19) rfl)) (by rw [hK, hm]; exact (He.glo_ok KX G (c.t.d.fact 36 (f := .glo "BadFormula") rfl))) (by rw [hK]; exact D) rfl ⟨rfl, rfl, rfl, by decide +kernel, rfl, by decide +kernel, by decide +kernel⟩ (by decide +kernel) (by decide +kernel) (by decide +kernel) (by decide +kernel) (visB_ok (by kernel_rfl)) (visB_ok (by kernel_rfl)) (fun _ _ _ _ _ _ us hl => match us, hl with | [_, _], _ => rfl) (fun _ _ _ _ _ _ _ _ => rfl)
    x_BadGoal := by
      obtain ⟨fd, D⟩ := c.t.d.def_ 34 (d := GH.mkI "BadGoal" 26) rfl
      exact excB_ok (N := []) (self := "self") (f := "goal") (by rw [hK]; exact (hdx KX G c).fld ("BadGoal", "goal") (List.mem_of_getElem? (i := 20) rfl)) (by rw [hK, hm]; exact (He.glo_ok KX G (c.t.d.fact 37 (f := .glo "BadGoal") rfl))) (by rw [hK]; exact D) rfl ⟨rfl, rfl, rfl, by decide +kernel, rfl, by decide +kernel, by decide +kernel⟩ (by decide +kernel) (by decide +kernel) (by decide +kernel) (by decide +kernel) (visB_ok (by kernel_rfl)) (visB_ok (by kernel_rfl)) (fun _ _ _ _ _ _ us hl => match us, hl with | [_, _], _ => rfl) (fun _ _ _ _ _ _ _ _ => rfl)
    x_BadHeap := by
      obtain ⟨fd, D⟩ := c.t.d.def_ 35 (d := GH.mkI "BadHeap" 27) rfl
      exact excB_ok (N := []) (self := "self") (f := "index") (by rw [hK]; exact (hdx KX G c).fld ("BadHeap", "index") (List.mem_of_getElem? (i := 21) rfl)) (by rw [hK, hm]; exact (He.glo_ok KX G (c.t.d.fact 38 (f := .glo "BadHeap") rfl))) (by rw [hK]; exact D) rfl ⟨rfl, rfl, rfl, by decide +kernel, rfl, by decide +kernel, by decide +kernel⟩ (by decide +kernel) (by decide +kernel) (by decide +kernel) (by decide +kernel) (visB_ok (by kernel_rfl)) (visB_ok (by kernel_rfl)) (fun _ _ _ _ _ _ us hl => match us, hl with | [_, _], _ => rfl) (fun _ _ _ _ _ _ _ _ => rfl)
    x_BadWorld := by
      obtain ⟨fd, D⟩ := c.t.d.def_ 36 (d := GH.mkI "BadWorld" 28) rfl
      exact excB_ok (N := []) (self := "self") (f := "world") (by rw [hK]; exact (hdx KX G c).fld ("BadWorld", "world") (List.mem_of_getElem? (i := 22) rfl)) (by rw [hK, hm]; exact (He.glo_ok KX G (c.t.d.fact 39 (f := .glo "BadWorld") rfl))) (by rw [hK]; exact D) rfl ⟨rfl, rfl, rfl, by decide +kernel, rfl, by decide +kernel, by decide +kernel⟩ (by decide +kernel) (by decide +kernel) (by decide +kernel) (by decide +kernel) (visB_ok (by kernel_rfl)) (visB_ok (by kernel_rfl)) (fun _ _ _ _ _ _ us hl => match us, hl with | [_, _], _ => rfl) (fun _ _ _ _ _ _ _ _ => rfl)
    x_BadPlace := by
      obtain ⟨fd, D⟩ := c.t.d.def_ 37 (d := GH.mkI "BadPlace" 29) rfl
      exact excB_ok (N := []) (self := "self") (f := "place") (by rw [hK]; exact (hdx KX G c).fld ("BadPlace", "place") (List.mem_of_getElem? (i := 23) rfl)) (by rw [hK, hm]; exact (He.glo_ok KX G (c.t.d.fact 40 (f := .glo "BadPlace") rfl))) (by rw [hK]; exact D) rfl ⟨rfl, rfl, rfl, by decide +kernel, rfl, by decide +kernel, by decide +kernel⟩ (by decide +kernel) (by decide +kernel) (by decide +kernel) (by decide +kernel) (visB_ok (by kernel_rfl)) (visB_ok (by kernel_rfl)) (fun _ _ _ _ _ _ us hl => match us, hl with | [_, _], _ => rfl) (fun _ _ _ _ _ _ _ _ => rfl)
    x_BadPart := by
      obtain ⟨fd, D⟩ := c.t.d.def_ 38 (d := GH.mkI "BadPart" 30) rfl
      exact excB_ok (N := []) (self := "self") (f := "part") (by rw [hK]; exact (hdx KX G c).fld ("BadPart", "part") (List.mem_of_getElem? (i := 24) rfl)) (by rw [hK, hm]; exact (He.glo_ok KX G (c.t.d.fact 41 (f := .glo "BadPart") rfl))) (by rw [hK]; exact D) rfl ⟨rfl, rfl, rfl, by decide +kernel, rfl, by decide +kernel, by decide +kernel⟩ (by decide +kernel) (by decide +kernel) (by decide +kernel) (by decide +kernel) (visB_ok (by kernel_rfl)) (visB_ok (by kernel_rfl)) (fun _ _ _ _ _ _ us hl => match us, hl with | [_, _], _ => rfl) (fun _ _ _ _ _ _ _ _ => rfl)
    x_BadFormulaText := by
      obtain ⟨fd, D⟩ := c.t.d.def_ 39 (d := GH.mkI "BadFormulaText" 31) rfl
      exact excB_ok (N := []) (self := "self") (f := "place") (by rw [hK]; exact (hdx KX G c).fld ("BadFormulaText", "place") (List.mem_of_getElem? (i := 25) rfl)) (by rw [hK, hm]; exact (He.glo_ok KX G (c.t.d.fact 42 (f := .glo "BadFormulaText") rfl))) (by rw [hK]; exact D) rfl ⟨rfl, rfl, rfl, by decide +kernel, rfl, by decide +kernel, by decide +kernel⟩ (by decide +kernel) (by decide +kernel) (by decide +kernel) (by decide +kernel) (visB_ok (by kernel_rfl)) (visB_ok (by kernel_rfl)) (fun _ _ _ _ _ _ us hl => match us, hl with | [_, _], _ => rfl) (fun _ _ _ _ _ _ _ _ => rfl)
    x_BadHeapText := by
      obtain ⟨fd, D⟩ := c.t.d.def_ 40 (d := GH.mkI "BadHeapText" 32) rfl
      exact excB_ok (N := []) (self := "self") (f := "line") (by rw [hK]; exact (hdx KX G c).fld ("BadHeapText", "line") (List.mem_of_getElem? (i := 26) rfl)) (by rw [hK, hm]; exact (He.glo_ok KX G (c.t.d.fact 43 (f := .glo "BadHeapText") rfl))) (by rw [hK]; exact D) rfl ⟨rfl, rfl, rfl, by decide +kernel, rfl, by decide +kernel, by decide +kernel⟩ (by decide +kernel) (by decide +kernel) (by decide +kernel) (by decide +kernel) (visB_ok (by kernel_rfl)) (visB_ok (by kernel_rfl)) (fun _ _ _ _ _ _ us hl => match us, hl with | [_, _], _ => rfl) (fun _ _ _ _ _ _ _ _ => rfl)
    x_BadWorldText := by
      obtain ⟨fd, D⟩ := c.t.d.def_ 41 (d := GH.mkI "BadWorldText" 33) rfl
      exact excB_ok (N := []) (self := "self") (f := "line") (by rw [hK]; exact (hdx KX G c).fld ("BadWorldText", "line") (List.mem_of_getElem? (i := 27) rfl)) (by rw [hK, hm]; exact (He.glo_ok KX G (c.t.d.fact 44 (f := .glo "BadWorldText") rfl))) (by rw [hK]; exact D) rfl ⟨rfl, rfl, rfl, by decide +kernel, rfl, by decide +kernel, by decide +kernel⟩ (by decide +kernel) (by decide +kernel) (by decide +kernel) (by decide +kernel) (visB_ok (by kernel_rfl)) (visB_ok (by kernel_rfl)) (fun _ _ _ _ _ _ us hl => match us, hl with | [_, _], _ => rfl) (fun _ _ _ _ _ _ _ _ => rfl)
    x_BadSome := by
      obtain ⟨fd, D⟩ := c.t.d.def_ 42 (d := GH.mkI "BadSome" 34) rfl
      exact excB_ok (N := []) (self := "self") (f := "some") (by rw [hK]; exact (hdx KX G c).fld ("BadSome", "some") (List.mem_of_getElem? (i := 28) rfl)) (by rw [hK, hm]; exact (He.glo_ok KX G (c.t.d.fact 45 (f := .glo "BadSome") rfl))) (by rw [hK]; exact D) rfl ⟨rfl, rfl, rfl, by decide +kernel, rfl, by decide +kernel, by decide +kernel⟩ (by decide +kernel) (by decide +kernel) (by decide +kernel) (by decide +kernel) (visB_ok (by kernel_rfl)) (visB_ok (by kernel_rfl)) (fun _ _ _ _ _ _ us hl => match us, hl with | [_, _], _ => rfl) (fun _ _ _ _ _ _ _ _ => rfl)
    x_BadOthers := by
      obtain ⟨fd, D⟩ := c.t.d.def_ 43 (d := GH.mkI "BadOthers" 35) rfl
      exact excB_ok (N := []) (self := "self") (f := "others") (by rw [hK]; exact (hdx KX G c).fld ("BadOthers", "others") (List.mem_of_getElem? (i := 29) rfl)) (by rw [hK, hm]; exact (He.glo_ok KX G (c.t.d.fact 46 (f := .glo "BadOthers") rfl))) (by rw [hK]; exact D) rfl ⟨rfl, rfl, rfl, by decide +kernel, rfl, by decide +kernel, by decide +kernel⟩ (by decide +kernel) (by decide +kernel) (by decide +kernel) (by decide +kernel) (visB_ok (by kernel_rfl)) (visB_ok (by kernel_rfl)) (fun _ _ _ _ _ _ us hl => match us, hl with | [_, _], _ => rfl) (fun _ _ _ _ _ _ _ _ => rfl)
    x_BadSets := by
      obtain ⟨fd, D⟩ := c.t.d.def_ 44 (d := GH.mkI "BadSets" 36) rfl
      exact excB_ok (N := []) (self := "self") (f := "sets") (by rw [hK]; exact (hdx KX G c).fld ("BadSets", "sets") (List.mem_of_getElem? (i := 30) rfl)) (by rw [hK, hm]; exact (He.glo_ok KX G (c.t.d.fact 47 (f := .glo "BadSets") rfl))) (by rw [hK]; exact D) rfl ⟨rfl, rfl, rfl, by decide +kernel, rfl, by decide +kernel, by decide +kernel⟩ (by decide +kernel) (by decide +kernel) (by decide +kernel) (by decide +kernel) (visB_ok (by kernel_rfl)) (visB_ok (by kernel_rfl)) (fun _ _ _ _ _ _ us hl => match us, hl with | [_, _], _ => rfl) (fun _ _ _ _ _ _ _ _ => rfl)
    x_BadWord := by
      obtain ⟨fd, D⟩ := c.t.d.def_ 45 (d := GH.mkI "BadWord" 37) rfl
      exact excB_ok (N := []) (self := "self") (f := "word") (by rw [hK]; exact (hdx KX G c).fld ("BadWord", "word") (List.mem_of_getElem? (i := 31) rfl)) (by rw [hK, hm]; exact (He.glo_ok KX G (c.t.d.fact 48 (f := .glo "BadWord") rfl))) (by rw [hK]; exact D) rfl ⟨rfl, rfl, rfl, by decide +kernel, rfl, by decide +kernel, by decide +kernel⟩ (by decide +kernel) (by decide +kernel) (by decide +kernel) (by decide +kernel) (visB_ok (by kernel_rfl)) (visB_ok (by kernel_rfl)) (fun _ _ _ _ _ _ us hl => match us, hl with | [_, _], _ => rfl) (fun _ _ _ _ _ _ _ _ => rfl)
    x_BadNumber := by
      obtain ⟨fd, D⟩ := c.t.d.def_ 46 (d := GH.mkI "BadNumber" 38) rfl
      exact excB_ok (N := []) (self := "self") (f := "number") (by rw [hK]; exact (hdx KX G c).fld ("BadNumber", "number") (List.mem_of_getElem? (i := 32) rfl)) (by rw [hK, hm]; exact (He.glo_ok KX G (c.t.d.fact 49 (f := .glo "BadNumber") rfl))) (by rw [hK]; exact D) rfl ⟨rfl, rfl, rfl, by decide +kernel, rfl, by decide +kernel, by decide +kernel⟩ (by decide +kernel) (by decide +kernel) (by decide +kernel) (by decide +kernel) (visB_ok (by kernel_rfl)) (visB_ok (by kernel_rfl)) (fun _ _ _ _ _ _ us hl => match us, hl with | [_, _], _ => rfl) (fun _ _ _ _ _ _ _ _ => rfl)
    x_BadTold := by
      obtain ⟨fd, D⟩ := c.t.d.def_ 47 (d := GH.mkI "BadTold" 39) rfl
      exact excB_ok (N := []) (self := "self") (f := "told") (by rw [hK]; exact (hdx KX G c).fld ("BadTold", "told") (List.mem_of_getElem? (i := 33) rfl)) (by rw [hK, hm]; exact (He.glo_ok KX G (c.t.d.fact 50 (f := .glo "BadTold") rfl))) (by rw [hK]; exact D) rfl ⟨rfl, rfl, rfl, by decide +kernel, rfl, by decide +kernel, by decide +kernel⟩ (by decide +kernel) (by decide +kernel) (by decide +kernel) (by decide +kernel) (visB_ok (by kernel_rfl)) (visB_ok (by kernel_rfl)) (fun _ _ _ _ _ _ us hl => match us, hl with | [_, _], _ => rfl) (fun _ _ _ _ _ _ _ _ => rfl)
    x_BadWords := by
      obtain ⟨fd, D⟩ := c.t.d.def_ 48 (d := GH.mkI "BadWords" 40) rfl
      exact excB_ok (N := []) (self := "self") (f := "index") (by rw [hK]; exact (hdx KX G c).fld ("BadWords", "index") (List.mem_of_getElem? (i := 34) rfl)) (by rw [hK, hm]; exact (He.glo_ok KX G (c.t.d.fact 51 (f := .glo "BadWords") rfl))) (by rw [hK]; exact D) rfl ⟨rfl, rfl, rfl, by decide +kernel, rfl, by decide +kernel, by decide +kernel⟩ (by decide +kernel) (by decide +kernel) (by decide +kernel) (by decide +kernel) (visB_ok (by kernel_rfl)) (visB_ok (by kernel_rfl)) (fun _ _ _ _ _ _ us hl => match us, hl with | [_, _], _ => rfl) (fun _ _ _ _ _ _ _ _ => rfl)
    x_BadWorlds := by
      obtain ⟨fd, D⟩ := c.t.d.def_ 49 (d := GH.mkI "BadWorlds" 41) rfl
      exact excB_ok (N := []) (self := "self") (f := "index") (by rw [hK]; exact (hdx KX G c).fld ("BadWorlds", "index") (List.mem_of_getElem? (i := 35) rfl)) (by rw [hK, hm]; exact (He.glo_ok KX G (c.t.d.fact 52 (f := .glo "BadWorlds") rfl))) (by rw [hK]; exact D) rfl ⟨rfl, rfl, rfl, by decide +kernel, rfl, by decide +kernel, by decide +kernel⟩ (by decide +kernel) (by decide +kernel) (by decide +kernel) (by decide +kernel) (visB_ok (by kernel_rfl)) (visB_ok (by kernel_rfl)) (fun _ _ _ _ _ _ us hl => match us, hl with | [_, _], _ => rfl) (fun _ _ _ _ _ _ _ _ => rfl)
    x_BadMany := by
      obtain ⟨fd, D⟩ := c.t.d.def_ 50 (d := GH.mkI "BadMany" 42) rfl
      exact excB_ok (N := []) (self := "self") (f := "many") (by rw [hK]; exact (hdx KX G c).fld ("BadMany", "many") (List.mem_of_getElem? (i := 36) rfl)) (by rw [hK, hm]; exact (He.glo_ok KX G (c.t.d.fact 53 (f := .glo "BadMany") rfl))) (by rw [hK]; exact D) rfl ⟨rfl, rfl, rfl, by decide +kernel, rfl, by decide +kernel, by decide +kernel⟩ (by decide +kernel) (by decide +kernel) (by decide +kernel) (by decide +kernel) (visB_ok (by kernel_rfl)) (visB_ok (by kernel_rfl)) (fun _ _ _ _ _ _ us hl => match us, hl with | [_, _], _ => rfl) (fun _ _ _ _ _ _ _ _ => rfl)
    x_BadHeight := by
      obtain ⟨fd, D⟩ := c.t.d.def_ 51 (d := GH.mkI "BadHeight" 43) rfl
      exact excB_ok (N := []) (self := "self") (f := "height") (by rw [hK]; exact (hdx KX G c).fld ("BadHeight", "height") (List.mem_of_getElem? (i := 37) rfl)) (by rw [hK, hm]; exact (He.glo_ok KX G (c.t.d.fact 54 (f := .glo "BadHeight") rfl))) (by rw [hK]; exact D) rfl ⟨rfl, rfl, rfl, by decide +kernel, rfl, by decide +kernel, by decide +kernel⟩ (by decide +kernel) (by decide +kernel) (by decide +kernel) (by decide +kernel) (visB_ok (by kernel_rfl)) (visB_ok (by kernel_rfl)) (fun _ _ _ _ _ _ us hl => match us, hl with | [_, _], _ => rfl) (fun _ _ _ _ _ _ _ _ => rfl)
    x_BadFull := by
      obtain ⟨fd, D⟩ := c.t.d.def_ 52 (d := GH.mkI "BadFull" 44) rfl
      exact excB_ok (N := []) (self := "self") (f := "full") (by rw [hK]; exact (hdx KX G c).fld ("BadFull", "full") (List.mem_of_getElem? (i := 38) rfl)) (by rw [hK, hm]; exact (He.glo_ok KX G (c.t.d.fact 55 (f := .glo "BadFull") rfl))) (by rw [hK]; exact D) rfl ⟨rfl, rfl, rfl, by decide +kernel, rfl, by decide +kernel, by decide +kernel⟩ (by decide +kernel) (by decide +kernel) (by decide +kernel) (by decide +kernel) (visB_ok (by kernel_rfl)) (visB_ok (by kernel_rfl)) (fun _ _ _ _ _ _ us hl => match us, hl with | [_, _], _ => rfl) (fun _ _ _ _ _ _ _ _ => rfl)
    x_TwoAlike := by
      obtain ⟨fd, D⟩ := c.t.d.def_ 53 (d := GH.mkI "TwoAlike" 45) rfl
      exact excB_ok (N := []) (self := "self") (f := "other") (by rw [hK]; exact (hdx KX G c).fld ("TwoAlike", "other") (List.mem_of_getElem? (i := 39) rfl)) (by rw [hK, hm]; exact (He.glo_ok KX G (c.t.d.fact 56 (f := .glo "TwoAlike") rfl))) (by rw [hK]; exact D) rfl ⟨rfl, rfl, rfl, by decide +kernel, rfl, by decide +kernel, by decide +kernel⟩ (by decide +kernel) (by decide +kernel) (by decide +kernel) (by decide +kernel) (visB_ok (by kernel_rfl)) (visB_ok (by kernel_rfl)) (fun _ _ _ _ _ _ us hl => match us, hl with | [_, _], _ => rfl) (fun _ _ _ _ _ _ _ _ => rfl)
    x_BadWeave := by
      obtain ⟨fd, D⟩ := c.t.d.def_ 54 (d := GH.mkI "BadWeave" 46) rfl
      exact excB_ok (N := []) (self := "self") (f := "weave") (by rw [hK]; exact (hdx KX G c).fld ("BadWeave", "weave") (List.mem_of_getElem? (i := 40) rfl)) (by rw [hK, hm]; exact (He.glo_ok KX G (c.t.d.fact 57 (f := .glo "BadWeave") rfl))) (by rw [hK]; exact D) rfl ⟨rfl, rfl, rfl, by decide +kernel, rfl, by decide +kernel, by decide +kernel⟩ (by decide +kernel) (by decide +kernel) (by decide +kernel) (by decide +kernel) (visB_ok (by kernel_rfl)) (visB_ok (by kernel_rfl)) (fun _ _ _ _ _ _ us hl => match us, hl with | [_, _], _ => rfl) (fun _ _ _ _ _ _ _ _ => rfl)
    x_BadName := by
      obtain ⟨fd, D⟩ := c.t.d.def_ 55 (d := GH.mkI "BadName" 47) rfl
      exact excB_ok (N := []) (self := "self") (f := "name") (by rw [hK]; exact (hdx KX G c).fld ("BadName", "name") (List.mem_of_getElem? (i := 41) rfl)) (by rw [hK, hm]; exact (He.glo_ok KX G (c.t.d.fact 58 (f := .glo "BadName") rfl))) (by rw [hK]; exact D) rfl ⟨rfl, rfl, rfl, by decide +kernel, rfl, by decide +kernel, by decide +kernel⟩ (by decide +kernel) (by decide +kernel) (by decide +kernel) (by decide +kernel) (visB_ok (by kernel_rfl)) (visB_ok (by kernel_rfl)) (fun _ _ _ _ _ _ us hl => match us, hl with | [_, _], _ => rfl) (fun _ _ _ _ _ _ _ _ => rfl)
    x_NotClearing := by
      obtain ⟨fd, D⟩ := c.t.d.def_ 56 (d := GH.mkI "NotClearing" 48) rfl
      exact excB_ok (N := []) (self := "self") (f := "place") (by rw [hK]; exact (hdx KX G c).fld ("NotClearing", "place") (List.mem_of_getElem? (i := 42) rfl)) (by rw [hK, hm]; exact (He.glo_ok KX G (c.t.d.fact 59 (f := .glo "NotClearing") rfl))) (by rw [hK]; exact D) rfl ⟨rfl, rfl, rfl, by decide +kernel, rfl, by decide +kernel, by decide +kernel⟩ (by decide +kernel) (by decide +kernel) (by decide +kernel) (by decide +kernel) (visB_ok (by kernel_rfl)) (visB_ok (by kernel_rfl)) (fun _ _ _ _ _ _ us hl => match us, hl with | [_, _], _ => rfl) (fun _ _ _ _ _ _ _ _ => rfl)
    f_other := (hdx KX G c).fx (xs_glo KX G c) (by decide +kernel)
    f_proof := (hdx KX G c).fx (xs_glo KX G c) (by decide +kernel)
    f_path := (hdx KX G c).fx (xs_glo KX G c) (by decide +kernel)
    f_index := (hdx KX G c).fx (xs_glo KX G c) (by decide +kernel)
    f_term := (hdx KX G c).fx (xs_glo KX G c) (by decide +kernel)
    f_more := (hdx KX G c).fx (xs_glo KX G c) (by decide +kernel)
    f_answer := (hdx KX G c).fx (xs_glo KX G c) (by decide +kernel)
    f_line := (hdx KX G c).fx (xs_glo KX G c) (by decide +kernel)
    f_prices := (hdx KX G c).fx (xs_glo KX G c) (by decide +kernel)
    f_levels := (hdx KX G c).fx (xs_glo KX G c) (by decide +kernel)
    f_strategy := (hdx KX G c).fx (xs_glo KX G c) (by decide +kernel)
    f_edit := (hdx KX G c).fx (xs_glo KX G c) (by decide +kernel)
    f_desk := (hdx KX G c).fx (xs_glo KX G c) (by decide +kernel)
    f_formula := (hdx KX G c).fx (xs_glo KX G c) (by decide +kernel)
    f_goal := (hdx KX G c).fx (xs_glo KX G c) (by decide +kernel)
    f_world := (hdx KX G c).fx (xs_glo KX G c) (by decide +kernel)
    f_place := (hdx KX G c).fx (xs_glo KX G c) (by decide +kernel)
    f_part := (hdx KX G c).fx (xs_glo KX G c) (by decide +kernel)
    f_some := (hdx KX G c).fx (xs_glo KX G c) (by decide +kernel)
    f_others := (hdx KX G c).fx (xs_glo KX G c) (by decide +kernel)
    f_sets := (hdx KX G c).fx (xs_glo KX G c) (by decide +kernel)
    f_word := (hdx KX G c).fx (xs_glo KX G c) (by decide +kernel)
    f_number := (hdx KX G c).fx (xs_glo KX G c) (by decide +kernel)
    f_told := (hdx KX G c).fx (xs_glo KX G c) (by decide +kernel)
    f_many := (hdx KX G c).fx (xs_glo KX G c) (by decide +kernel)
    f_height := (hdx KX G c).fx (xs_glo KX G c) (by decide +kernel)
    f_full := (hdx KX G c).fx (xs_glo KX G c) (by decide +kernel)
    f_weave := (hdx KX G c).fx (xs_glo KX G c) (by decide +kernel)
    f_name := (hdx KX G c).fx (xs_glo KX G c) (by decide +kernel)
    t := tabB_ok (hdx KX G c).tab xs_mem (xs_glo KX G c) (asked_all KX G c.t.d (by kernel_rfl))
    k := (hdx KX G c).kit (fun x y b e => (xs_mem x y b e).1) (xs_glo KX G c) }
set_option maxHeartbeats 0 in
theorem calls_ok : ∀ k : Nat, CallsA P w base g k
  | 0 => {
    f50 := by
      obtain ⟨fd, D⟩ := c.t.d.def_ 0 (d := GH.mkD "_law_start" 50) rfl
      exact FunA.no D (He.glo_ok KX G (c.t.d.fact 0 (f := .glo "_law_start") rfl)) (D.bindsN (ps := (["script"] : List Str)) fun _ _ _ _ _ _ us hl => match us, hl with | [_], _ => rfl) rfl fun _ _ => rfl
    f51 := by
      obtain ⟨fd, D⟩ := c.t.d.def_ 1 (d := GH.mkD "_law_pick" 51) rfl
      exact FunA.no D (He.glo_ok KX G (c.t.d.fact 1 (f := .glo "_law_pick") rfl)) (D.bindsN (ps := (["state", "many"] : List Str)) fun _ _ _ _ _ _ us hl => match us, hl with | [_, _], _ => rfl) rfl fun _ _ => rfl
    f52 := by
      obtain ⟨fd, D⟩ := c.t.d.def_ 2 (d := GH.mkD "_law_between" 52) rfl
      exact FunA.no D (He.glo_ok KX G (c.t.d.fact 2 (f := .glo "_law_between") rfl)) (D.bindsN (ps := (["state", "low", "high"] : List Str)) fun _ _ _ _ _ _ us hl => match us, hl with | [_, _, _], _ => rfl) rfl fun _ _ => rfl
    f53 := by
      obtain ⟨fd, D⟩ := c.t.d.def_ 3 (d := GH.mkD "_law_same" 53) rfl
      exact FunA.no D (He.glo_ok KX G (c.t.d.fact 3 (f := .glo "_law_same") rfl)) (D.bindsN (ps := (["found", "due"] : List Str)) fun _ _ _ _ _ _ us hl => match us, hl with | [_, _], _ => rfl) rfl fun _ _ => rfl
    f54 := by
      obtain ⟨fd, D⟩ := c.t.d.def_ 4 (d := GH.mkD "_law_kinds_of" 54) rfl
      exact FunA.no D (He.glo_ok KX G (c.t.d.fact 4 (f := .glo "_law_kinds_of") rfl)) (D.bindsN (ps := (["e"] : List Str)) fun _ _ _ _ _ _ us hl => match us, hl with | [_], _ => rfl) rfl fun _ _ => rfl
    f55 := by
      obtain ⟨fd, D⟩ := c.t.d.def_ 5 (d := GH.mkD "_law_others" 55) rfl
      exact FunA.no D (He.glo_ok KX G (c.t.d.fact 5 (f := .glo "_law_others") rfl)) (D.bindsN (ps := (["x"] : List Str)) fun _ _ _ _ _ _ us hl => match us, hl with | [_], _ => rfl) rfl fun _ _ => rfl
    f56 := by
      obtain ⟨fd, D⟩ := c.t.d.def_ 6 (d := GH.mkD "_law_is_other" 56) rfl
      exact FunA.no D (He.glo_ok KX G (c.t.d.fact 6 (f := .glo "_law_is_other") rfl)) (D.bindsN (ps := (["e"] : List Str)) fun _ _ _ _ _ _ us hl => match us, hl with | [_], _ => rfl) rfl fun _ _ => rfl
    f57 := by
      obtain ⟨fd, D⟩ := c.t.d.def_ 7 (d := GH.mkD "_law_made_a" 57) rfl
      exact FunA.no D (He.glo_ok KX G (c.t.d.fact 7 (f := .glo "_law_made_a") rfl)) (D.bindsN (ps := (["at", "x"] : List Str)) fun _ _ _ _ _ _ us hl => match us, hl with | [_, _], _ => rfl) rfl fun _ _ => rfl
    f58 := by
      obtain ⟨fd, D⟩ := c.t.d.def_ 8 (d := GH.mkD "_law_made_b" 58) rfl
      exact FunA.no D (He.glo_ok KX G (c.t.d.fact 8 (f := .glo "_law_made_b") rfl)) (D.bindsN (ps := (["at", "x"] : List Str)) fun _ _ _ _ _ _ us hl => match us, hl with | [_, _], _ => rfl) rfl fun _ _ => rfl
    f59 := by
      obtain ⟨fd, D⟩ := c.t.d.def_ 9 (d := GH.mkD "_law_made_at" 59) rfl
      exact FunA.no D (He.glo_ok KX G (c.t.d.fact 9 (f := .glo "_law_made_at") rfl)) (D.bindsN (ps := (["at", "x"] : List Str)) fun _ _ _ _ _ _ us hl => match us, hl with | [_, _], _ => rfl) rfl fun _ _ => rfl
    f60 := by
      obtain ⟨fd, D⟩ := c.t.d.def_ 10 (d := GH.mkD "_law_object" 60) rfl
      exact FunA.no D (He.glo_ok KX G (c.t.d.fact 10 (f := .glo "_law_object") rfl)) (D.bindsN (ps := (["state"] : List Str)) fun _ _ _ _ _ _ us hl => match us, hl with | [_], _ => rfl) rfl fun _ _ => rfl
    f61 := by
      obtain ⟨fd, D⟩ := c.t.d.def_ 11 (d := GH.mkD "_law_very" 61) rfl
      exact FunA.no D (He.glo_ok KX G (c.t.d.fact 11 (f := .glo "_law_very") rfl)) (D.bindsN (ps := (["found", "due"] : List Str)) fun _ _ _ _ _ _ us hl => match us, hl with | [_, _], _ => rfl) rfl fun _ _ => rfl
    f62 := by
      obtain ⟨fd, D⟩ := c.t.d.def_ 12 (d := GH.mkD "_law_caught" 62) rfl
      exact FunA.no D (He.glo_ok KX G (c.t.d.fact 12 (f := .glo "_law_caught") rfl)) (D.bindsN (ps := (["x"] : List Str)) fun _ _ _ _ _ _ us hl => match us, hl with | [_], _ => rfl) rfl fun _ _ => rfl }
  | k + 1 => by
    have ih := calls_ok k
    exact {
    f50 := by
      obtain ⟨fd, D⟩ := c.t.d.def_ 0 (d := GH.mkD "_law_start" 50) rfl
      exact FunA.no D (He.glo_ok KX G (c.t.d.fact 0 (f := .glo "_law_start") rfl)) (D.bindsN (ps := (["script"] : List Str)) fun _ _ _ _ _ _ us hl => match us, hl with | [_], _ => rfl) rfl fun ds μ => by show (if k < 2 then Rf.no else Rf.no) = Rf.no; split <;> rfl
    f51 := by
      obtain ⟨fd, D⟩ := c.t.d.def_ 1 (d := GH.mkD "_law_pick" 51) rfl
      by_cases hk : k < 2
      · exact FunA.no D (He.glo_ok KX G (c.t.d.fact 1 (f := .glo "_law_pick") rfl)) (D.bindsN (ps := (["state", "many"] : List Str)) fun _ _ _ _ _ _ us hl => match us, hl with | [_, _], _ => rfl) rfl fun ds μ => if_pos hk
      · exact FunA.by (N := N51) (bl := GH.bls) D (He.glo_ok KX G (c.t.d.fact 1 (f := .glo "_law_pick") rfl)) (D.bindsN (ps := (["state", "many"] : List Str)) fun _ _ _ _ _ _ us hl => match us, hl with | [_, _], _ => rfl) rfl ⟨rfl, rfl, rfl, by decide +kernel, rfl, by decide +kernel, by decide +kernel⟩ (bl_free KX G c) (fun X h1 h2 h3 C S => ok51 C S (by omega) (ih.to h1 h2 h3 C.hK C.hm) (errs_of KX G c C.hK C.hm)) (funext fun ds => funext fun μ => if_neg hk)
    f52 := by
      obtain ⟨fd, D⟩ := c.t.d.def_ 2 (d := GH.mkD "_law_between" 52) rfl
      by_cases hk : k < 2
      · exact FunA.no D (He.glo_ok KX G (c.t.d.fact 2 (f := .glo "_law_between") rfl)) (D.bindsN (ps := (["state", "low", "high"] : List Str)) fun _ _ _ _ _ _ us hl => match us, hl with | [_, _, _], _ => rfl) rfl fun ds μ => if_pos hk
      · exact FunA.by (N := N52) (bl := GH.bls) D (He.glo_ok KX G (c.t.d.fact 2 (f := .glo "_law_between") rfl)) (D.bindsN (ps := (["state", "low", "high"] : List Str)) fun _ _ _ _ _ _ us hl => match us, hl with | [_, _, _], _ => rfl) rfl ⟨rfl, rfl, rfl, by decide +kernel, rfl, by decide +kernel, by decide +kernel⟩ (bl_free KX G c) (fun X h1 h2 h3 C S => ok52 C S (by omega) (ih.to h1 h2 h3 C.hK C.hm) (errs_of KX G c C.hK C.hm)) (funext fun ds => funext fun μ => if_neg hk)
    f53 := by
      obtain ⟨fd, D⟩ := c.t.d.def_ 3 (d := GH.mkD "_law_same" 53) rfl
      by_cases hk : k < 2
      · exact FunA.no D (He.glo_ok KX G (c.t.d.fact 3 (f := .glo "_law_same") rfl)) (D.bindsN (ps := (["found", "due"] : List Str)) fun _ _ _ _ _ _ us hl => match us, hl with | [_, _], _ => rfl) rfl fun ds μ => if_pos hk
      · exact FunA.by (N := N53) (bl := GH.bls) D (He.glo_ok KX G (c.t.d.fact 3 (f := .glo "_law_same") rfl)) (D.bindsN (ps := (["found", "due"] : List Str)) fun _ _ _ _ _ _ us hl => match us, hl with | [_, _], _ => rfl) rfl ⟨rfl, rfl, rfl, by decide +kernel, rfl, by decide +kernel, by decide +kernel⟩ (bl_free KX G c) (fun X h1 h2 h3 C S => ok53 C S (by omega) (ih.to h1 h2 h3 C.hK C.hm) (errs_of KX G c C.hK C.hm)) (funext fun ds => funext fun μ => if_neg hk)
    f54 := by
      obtain ⟨fd, D⟩ := c.t.d.def_ 4 (d := GH.mkD "_law_kinds_of" 54) rfl
      by_cases hk : k < 2
      · exact FunA.no D (He.glo_ok KX G (c.t.d.fact 4 (f := .glo "_law_kinds_of") rfl)) (D.bindsN (ps := (["e"] : List Str)) fun _ _ _ _ _ _ us hl => match us, hl with | [_], _ => rfl) rfl fun ds μ => if_pos hk
      · exact FunA.by (N := N54) (bl := GH.bls) D (He.glo_ok KX G (c.t.d.fact 4 (f := .glo "_law_kinds_of") rfl)) (D.bindsN (ps := (["e"] : List Str)) fun _ _ _ _ _ _ us hl => match us, hl with | [_], _ => rfl) rfl ⟨rfl, rfl, rfl, by decide +kernel, rfl, by decide +kernel, by decide +kernel⟩ (bl_free KX G c) (fun X h1 h2 h3 C S => ok54 C S (by omega) (ih.to h1 h2 h3 C.hK C.hm) (errs_of KX G c C.hK C.hm)) (funext fun ds => funext fun μ => if_neg hk)
    f55 := by
      obtain ⟨fd, D⟩ := c.t.d.def_ 5 (d := GH.mkD "_law_others" 55) rfl
      by_cases hk : k < 2
      · exact FunA.no D (He.glo_ok KX G (c.t.d.fact 5 (f := .glo "_law_others") rfl)) (D.bindsN (ps := (["x"] : List Str)) fun _ _ _ _ _ _ us hl => match us, hl with | [_], _ => rfl) rfl fun ds μ => if_pos hk
      · exact FunA.by (N := N55) (bl := GH.bls) D (He.glo_ok KX G (c.t.d.fact 5 (f := .glo "_law_others") rfl)) (D.bindsN (ps := (["x"] : List Str)) fun _ _ _ _ _ _ us hl => match us, hl with | [_], _ => rfl) rfl ⟨rfl, rfl, rfl, by decide +kernel, rfl, by decide +kernel, by decide +kernel⟩ (bl_free KX G c) (fun X h1 h2 h3 C S => ok55 C S (by omega) (ih.to h1 h2 h3 C.hK C.hm) (errs_of KX G c C.hK C.hm)) (funext fun ds => funext fun μ => if_neg hk)
    f56 := by
      obtain ⟨fd, D⟩ := c.t.d.def_ 6 (d := GH.mkD "_law_is_other" 56) rfl
      by_cases hk : k < 2
      · exact FunA.no D (He.glo_ok KX G (c.t.d.fact 6 (f := .glo "_law_is_other") rfl)) (D.bindsN (ps := (["e"] : List Str)) fun _ _ _ _ _ _ us hl => match us, hl with | [_], _ => rfl) rfl fun ds μ => if_pos hk
      · exact FunA.by (N := N56) (bl := GH.bls) D (He.glo_ok KX G (c.t.d.fact 6 (f := .glo "_law_is_other") rfl)) (D.bindsN (ps := (["e"] : List Str)) fun _ _ _ _ _ _ us hl => match us, hl with | [_], _ => rfl) rfl ⟨rfl, rfl, rfl, by decide +kernel, rfl, by decide +kernel, by decide +kernel⟩ (bl_free KX G c) (fun X h1 h2 h3 C S => ok56 C S (by omega) (ih.to h1 h2 h3 C.hK C.hm) (errs_of KX G c C.hK C.hm)) (funext fun ds => funext fun μ => if_neg hk)
    f57 := by
      obtain ⟨fd, D⟩ := c.t.d.def_ 7 (d := GH.mkD "_law_made_a" 57) rfl
      by_cases hk : k < 2
      · exact FunA.no D (He.glo_ok KX G (c.t.d.fact 7 (f := .glo "_law_made_a") rfl)) (D.bindsN (ps := (["at", "x"] : List Str)) fun _ _ _ _ _ _ us hl => match us, hl with | [_, _], _ => rfl) rfl fun ds μ => if_pos hk
      · exact FunA.by (N := N57) (bl := GH.bls) D (He.glo_ok KX G (c.t.d.fact 7 (f := .glo "_law_made_a") rfl)) (D.bindsN (ps := (["at", "x"] : List Str)) fun _ _ _ _ _ _ us hl => match us, hl with | [_, _], _ => rfl) rfl ⟨rfl, rfl, rfl, by decide +kernel, rfl, by decide +kernel, by decide +kernel⟩ (bl_free KX G c) (fun X h1 h2 h3 C S => ok57 C S (by omega) (ih.to h1 h2 h3 C.hK C.hm) (errs_of KX G c C.hK C.hm)) (funext fun ds => funext fun μ => if_neg hk)
    f58 := by
      obtain ⟨fd, D⟩ := c.t.d.def_ 8 (d := GH.mkD "_law_made_b" 58) rfl
      by_cases hk : k < 2
      · exact FunA.no D (He.glo_ok KX G (c.t.d.fact 8 (f := .glo "_law_made_b") rfl)) (D.bindsN (ps := (["at", "x"] : List Str)) fun _ _ _ _ _ _ us hl => match us, hl with | [_, _], _ => rfl) rfl fun ds μ => if_pos hk
      · exact FunA.by (N := N58) (bl := GH.bls) D (He.glo_ok KX G (c.t.d.fact 8 (f := .glo "_law_made_b") rfl)) (D.bindsN (ps := (["at", "x"] : List Str)) fun _ _ _ _ _ _ us hl => match us, hl with | [_, _], _ => rfl) rfl ⟨rfl, rfl, rfl, by decide +kernel, rfl, by decide +kernel, by decide +kernel⟩ (bl_free KX G c) (fun X h1 h2 h3 C S => ok58 C S (by omega) (ih.to h1 h2 h3 C.hK C.hm) (errs_of KX G c C.hK C.hm)) (funext fun ds => funext fun μ => if_neg hk)
    f59 := by
      obtain ⟨fd, D⟩ := c.t.d.def_ 9 (d := GH.mkD "_law_made_at" 59) rfl
      by_cases hk : k < 2
      · exact FunA.no D (He.glo_ok KX G (c.t.d.fact 9 (f := .glo "_law_made_at") rfl)) (D.bindsN (ps := (["at", "x"] : List Str)) fun _ _ _ _ _ _ us hl => match us, hl with | [_, _], _ => rfl) rfl fun ds μ => if_pos hk
      · exact FunA.by (N := N59) (bl := GH.bls) D (He.glo_ok KX G (c.t.d.fact 9 (f := .glo "_law_made_at") rfl)) (D.bindsN (ps := (["at", "x"] : List Str)) fun _ _ _ _ _ _ us hl => match us, hl with | [_, _], _ => rfl) rfl ⟨rfl, rfl, rfl, by decide +kernel, rfl, by decide +kernel, by decide +kernel⟩ (bl_free KX G c) (fun X h1 h2 h3 C S => ok59 C S (by omega) (ih.to h1 h2 h3 C.hK C.hm) (errs_of KX G c C.hK C.hm)) (funext fun ds => funext fun μ => if_neg hk)
    f60 := by
      obtain ⟨fd, D⟩ := c.t.d.def_ 10 (d := GH.mkD "_law_object" 60) rfl
      by_cases hk : k < 2
      · exact FunA.no D (He.glo_ok KX G (c.t.d.fact 10 (f := .glo "_law_object") rfl)) (D.bindsN (ps := (["state"] : List Str)) fun _ _ _ _ _ _ us hl => match us, hl with | [_], _ => rfl) rfl fun ds μ => if_pos hk
      · exact FunA.by (N := N60) (bl := GH.bls) D (He.glo_ok KX G (c.t.d.fact 10 (f := .glo "_law_object") rfl)) (D.bindsN (ps := (["state"] : List Str)) fun _ _ _ _ _ _ us hl => match us, hl with | [_], _ => rfl) rfl ⟨rfl, rfl, rfl, by decide +kernel, rfl, by decide +kernel, by decide +kernel⟩ (bl_free KX G c) (fun X h1 h2 h3 C S => ok60 C S (by omega) (ih.to h1 h2 h3 C.hK C.hm) (errs_of KX G c C.hK C.hm)) (funext fun ds => funext fun μ => if_neg hk)
    f61 := by
      obtain ⟨fd, D⟩ := c.t.d.def_ 11 (d := GH.mkD "_law_very" 61) rfl
      exact FunA.no D (He.glo_ok KX G (c.t.d.fact 11 (f := .glo "_law_very") rfl)) (D.bindsN (ps := (["found", "due"] : List Str)) fun _ _ _ _ _ _ us hl => match us, hl with | [_, _], _ => rfl) rfl fun ds μ => by show (if k < 2 then Rf.no else Rf.no) = Rf.no; split <;> rfl
    f62 := by
      obtain ⟨fd, D⟩ := c.t.d.def_ 12 (d := GH.mkD "_law_caught" 62) rfl
      exact FunA.no D (He.glo_ok KX G (c.t.d.fact 12 (f := .glo "_law_caught") rfl)) (D.bindsN (ps := (["x"] : List Str)) fun _ _ _ _ _ _ us hl => match us, hl with | [_], _ => rfl) rfl fun ds μ => by show (if k < 2 then Rf.no else Rf.no) = Rf.no; split <;> rfl }
end
end GL

set_option maxHeartbeats 4000000
namespace GL
open PySem PySem.Spec PyProof.Rows L2 GW
/-- the drawn things -/
inductive ObV : D → Prop
  | non : ObV .non
  | bl (b : Bool) : ObV (.bl b)
  | int (i : Int) : ObV (.int i)
  | str (s : Str) (h : PyData.canLay0 (.str s) = true) : ObV (.str s)
  | tup (i j : Int) : ObV (.tup [.int i, .int j])
  | lst (e : Nat) (i : Int) : ObV (.lst e [.int i, .lst e [.int 1]])
  | dic (e : Nat) (i : Int) : ObV (.dic e [(.inr "a", .int i)])
theorem ObV.obj {d : D} (h : ObV d) : objD "a" d = true := by cases h <;> first | assumption | kernel_rfl
theorem ObV.dat {d : D} (h : ObV d) : isDat d = true := by cases h <;> rfl
/-! ### the draws -/
theorem FF_p (k : Nat) (ds : List D) (μ : Mu) : FF (k + 3) 51 ds μ = (pickB (rho0 5 ds) μ).fin := rfl
theorem FF_b (k : Nat) (ds : List D) (μ : Mu) : FF (k + 3) 52 ds μ = (b52 (FF (k + 2)) (rho0 3 ds) μ).fin := rfl
theorem FF_o (k : Nat) (ds : List D) (μ : Mu) : FF (k + 3) 60 ds μ = (b60 (FF (k + 2)) (rho0 2 ds) μ).fin := rfl
theorem pickF (k : Nat) {μ : Mu} (hm : MuOk μ) (m : Int) (h1 : 1 ≤ m) (h2 : m < 2 ^ 30) (hc : μ.cnt + 1 < 2 ^ 40) : ∃ r μ', FF (k + 3) 51 [.sta, .int m] μ = .ok (.int r) μ' ∧ 0 ≤ r ∧ r < m ∧ MuOk μ' ∧ μ'.cnt = μ.cnt + 1 ∧ μ'.ec = μ.ec := by
  rw [FF_p]; exact pick_ok hm h1 h2 hc
theorem betw {F : Fs} {μ μ1 : Mu} {r : Int} (h : F 51 [.sta, .int 19] μ = .ok (.int r) μ1) : (b52 F (rho0 3 [.sta, .int (-9), .int 9]) μ).fin = .ok (.int (-9 + r)) μ1 := by
  have e : rho0 3 [.sta, .int (-9), .int 9] = [.val .sta, .val (.int (-9)), .val (.int 9)] := rfl
  rw [e]
  have k1 : kMax μ.ec [.int (9 - -9), .int 0] = some (.int 18) := by kernel_rfl
  simp only [b52, sCons, sRet, ev2, evC, aCons, evVar, evK, List.getElem?_cons_zero, List.getElem?_cons_succ, Rs.bind_ok, two, rsv, rsvs, opBin, GW.ret, k1, evCall, List.length_cons, List.length_nil, callF, passA, pass1]
  have k2 : (18 : Int) + 1 = 19 := rfl
  simp only [k2, h, flatR, if_true, Rs.bind_ok, datR, fz, isDat, Rs.fin]
theorem str_sz : ∀ n : Fin 99, (szB (("w" : Str).length + (Str.ofString (toString ((n.val : Nat) : Int))).length) && PyData.canLay0 (.str ("w" ++ Str.ofString (toString ((n.val : Nat) : Int))))) = true := by decide +kernel
def objT (F : Fs) : Ro → Mu → Rs Fl := sCons (sIf (toT (ev2 (cmpK .Lt) (evVar 1) (evK (.int 2)))) (sCons (sRet (ev2 (fun _ x y => opIx x y) (evN (dispL (aCons (evCall 3 (F 52) (aCons (evVar 0) (aCons (ev1 (fun _ x => kNeg x) (evK (.int 9))) (aCons (evK (.int 9)) (aNil))))) (aCons (ev2 (fun c x y => opBin c .Add x y) (evK (.str "w")) (evC kStr (aCons (evCall 2 (F 51) (aCons (evVar 0) (aCons (evK (.int 99)) (aNil)))) (aNil)))) (aNil))))) (evVar 1)))
  (sNil)) (sNil))
  (sCons (sIf (toT (ev2 (cmpK .Lt) (evVar 1) (evK (.int 5)))) (sCons (sRet (ev2 (fun _ x y => opIx x y) (evN (dispL (aCons (evK .non) (aCons (ev2 (cmpK .Eq) (evCall 2 (F 51) (aCons (evVar 0) (aCons (evK (.int 2)) (aNil)))) (evK (.int 0))) (aCons (dispT (aCons (evK (.int 1)) (aCons (evCall 2 (F 51) (aCons (evVar 0) (aCons (evK (.int 9)) (aNil)))) (aNil)))) (aNil)))))) (ev2 (fun c x y => opBin c .Sub x y) (evVar 1) (evK (.int 2)))))
  (sNil)) (sNil))
  (sCons (sRet (evIte (toT (ev2 (cmpK .Eq) (evVar 1) (evK (.int 5)))) (evN (dispL (aCons (evCall 2 (F 51) (aCons (evVar 0) (aCons (evK (.int 9)) (aNil)))) (aCons (evN (dispL (aCons (evK (.int 1)) (aNil)))) (aNil))))) (evN (evDict (dCons (evK (.str "a")) (evCall 2 (F 51) (aCons (evVar 0) (aCons (evK (.int 9)) (aNil)))) (dNil))))))
  (sNil)))
theorem obj_eq (F : Fs) : b60 F = sCons (sSet 1 (evCall 2 (F 51) (aCons (evVar 0) (aCons (evK (.int 7)) (aNil))))) (objT F) := rfl
section
variable {F : Fs} {μ μ1 μ2 : Mu} {a r r2 : Int}
theorem t01 (hb : F 52 [.sta, .int (-9), .int 9] μ = .ok (.int a) μ1) (h2 : F 51 [.sta, .int 99] μ1 = .ok (.int r2) μ2) (l0 : 0 ≤ r2) (l1 : r2 < 99) :
    (objT F [.val .sta, .val (.int 0)] μ).fin = .ok (.int a) μ2 ∧ (objT F [.val .sta, .val (.int 1)] μ).fin = .ok (.str ("w" ++ Str.ofString (toString r2))) μ2 ∧ PyData.canLay0 (.str ("w" ++ Str.ofString (toString r2))) = true := by
  have ks : kStr μ2.ec [.int r2] = some (.str (Str.ofString (toString r2))) := by
    have : r2.natAbs.log2 < 1920 := by
      have := Nat.log2_le_self r2.natAbs
      omega
    simp [kStr, this]
  have ss : (szB (("w" : Str).length + (Str.ofString (toString r2)).length) && PyData.canLay0 (.str ("w" ++ Str.ofString (toString r2)))) = true := by
    have := str_sz ⟨r2.toNat, by omega⟩
    have e : ((r2.toNat : Nat) : Int) = r2 := by omega
    simp only [e] at this
    exact this
  obtain ⟨sz, cl⟩ := He.ba ss
  clear ss
  generalize Str.ofString (toString r2) = z at ks sz cl ⊢
  have s2 : szB 2 = true := by kernel_rfl
  have neg : (-(9 : Int)) = -9 := rfl
  have x0 : ∀ x y : D, atI [x, y] 0 = some x := fun x y => by kernel_rfl
  have x1 : ∀ x y : D, atI [x, y] 1 = some y := fun x y => by kernel_rfl
  refine ⟨?_, ?_, cl⟩
  · simp [objT, sCons, sNil, sIf, sRet, toT, ev1, one, ev2, cmpK, opCmp, opEq, evVar, evK, two, rsv, rsvs, GW.ret, truR, tru, evN, dispL, aCons, evC, evCall, callF, passA, pass1, hb, h2, kNeg, neg, flatR, ks, opBin, sz, datsR, fzs, fz, isDat, s2, NV.d, datR, Rs.fin, opIx, x0]
  · simp [objT, sCons, sNil, sIf, sRet, toT, ev1, one, ev2, cmpK, opCmp, opEq, evVar, evK, two, rsv, rsvs, GW.ret, truR, tru, evN, dispL, aCons, evC, evCall, callF, passA, pass1, hb, h2, kNeg, neg, flatR, ks, opBin, sz, datsR, fzs, fz, isDat, s2, NV.d, datR, Rs.fin, opIx, x1]
theorem t234 (h1 : F 51 [.sta, .int 2] μ = .ok (.int r) μ1) (h2 : F 51 [.sta, .int 9] μ1 = .ok (.int r2) μ2) :
    (objT F [.val .sta, .val (.int 2)] μ).fin = .ok .non μ2 ∧ (objT F [.val .sta, .val (.int 3)] μ).fin = .ok (.bl (r == 0)) μ2 ∧ (objT F [.val .sta, .val (.int 4)] μ).fin = .ok (.tup [.int 1, .int r2]) μ2 := by
  have s2 : szB 2 = true := by kernel_rfl
  have s3 : szB 3 = true := by kernel_rfl
  have x0 : ∀ x y z : D, atI [x, y, z] 0 = some x := fun x y z => by kernel_rfl
  have x1 : ∀ x y z : D, atI [x, y, z] 1 = some y := fun x y z => by kernel_rfl
  have x2 : ∀ x y z : D, atI [x, y, z] 2 = some z := fun x y z => by kernel_rfl
  refine ⟨?_, ?_, ?_⟩
  · simp [objT, sCons, sNil, sIf, sRet, toT, ev2, cmpK, opCmp, opEq, evVar, evK, two, rsv, rsvs, GW.ret, truR, tru, evN, dispL, dispT, aCons, evC, evCall, callF, passA, pass1, h1, h2, flatR, flatRs, opBin, datsR, fzs, fz, isDat, s2, s3, NV.d, datR, Rs.fin, opIx, x0]
  · simp [objT, sCons, sNil, sIf, sRet, toT, ev2, cmpK, opCmp, opEq, evVar, evK, two, rsv, rsvs, GW.ret, truR, tru, evN, dispL, dispT, aCons, evC, evCall, callF, passA, pass1, h1, h2, flatR, flatRs, opBin, datsR, fzs, fz, isDat, s2, s3, NV.d, datR, Rs.fin, opIx, x1]
  · simp [objT, sCons, sNil, sIf, sRet, toT, ev2, cmpK, opCmp, opEq, evVar, evK, two, rsv, rsvs, GW.ret, truR, tru, evN, dispL, dispT, aCons, evC, evCall, callF, passA, pass1, h1, h2, flatR, flatRs, opBin, datsR, fzs, fz, isDat, s2, s3, NV.d, datR, Rs.fin, opIx, x2]
theorem t5 (h : F 51 [.sta, .int 9] μ = .ok (.int r) μ1) : (objT F [.val .sta, .val (.int 5)] μ).fin = .ok (.lst μ1.ec [.int r, .lst μ1.ec [.int 1]]) μ1 := by
  have s1 : szB 1 = true := by kernel_rfl
  have s2 : szB 2 = true := by kernel_rfl
  simp [objT, sCons, sNil, sIf, sRet, toT, ev2, cmpK, opCmp, opEq, evVar, evK, two, rsv, GW.ret, truR, tru, evIte, evN, dispL, aCons, evCall, callF, passA, pass1, h, flatR, datsR, fzs, fz, isDat, s1, s2, NV.d, datR, Rs.fin]
theorem t6 (h : F 51 [.sta, .int 9] μ = .ok (.int r) μ1) : (objT F [.val .sta, .val (.int 6)] μ).fin = .ok (.dic μ.ec [(.inr "a", .int r)]) μ1 := by
  have s1 : szB 1 = true := by kernel_rfl
  simp [objT, sCons, sNil, sIf, sRet, toT, ev2, cmpK, opCmp, opEq, evVar, evK, two, rsv, GW.ret, truR, tru, evIte, evN, evDict, dCons, dNil, keyD, aCons, evCall, callF, passA, pass1, h, flatR, datsR, fzs, fz, isDat, s1, NV.d, datR, Rs.fin, mergeD, putD]
end
theorem upP {k : Nat} {ds : List D} {μ : Mu} {r : Rf} (h : FF (k + 3) 51 ds μ = r) (j : Nat) : FF (j + 3) 51 ds μ = r := (FF_p j ds μ).trans ((FF_p k ds μ).symm.trans h)
/-- a drawn thing -/
theorem objF (k : Nat) {μ : Mu} (hm : MuOk μ) (hc : μ.cnt + 10 < 2 ^ 40) : ∃ d μ', FF (k + 5) 60 [.sta] μ = .ok d μ' ∧ ObV d ∧ (∀ c, c < μ.ec → newD c d = true) ∧ MuOk μ' ∧ μ'.cnt ≤ μ.cnt + 6 ∧ μ'.ec = μ.ec := by
  obtain ⟨q, μ0, h0, l0, u0, m0, c0, e0⟩ := pickF k hm 7 (by omega) (by omega) (by omega)
  have h0' : sSet 1 (evCall 2 (FF (k + 4) 51) (aCons (evVar 0) (aCons (evK (.int 7)) (aNil)))) [.val .sta, .un] μ = .ok .nx [.val .sta, .val (.int q)] μ0 := by
    simp only [sSet, evCall, aCons, evVar, evK, List.getElem?_cons_zero, Rs.bind_ok, List.length_cons, List.length_nil, callF, passA, pass1, upP h0 (k + 1), flatR, if_true, datR, fz, isDat, List.set_cons_succ, List.set_cons_zero]
  have hF : FF (k + 5) 60 [.sta] μ = (objT (FF (k + 4)) [.val .sta, .val (.int q)] μ0).fin := by
    rw [FF_o (k + 2)]
    have er : rho0 2 [.sta] = [.val .sta, .un] := rfl
    rw [er, obj_eq, sCons]
    simp only [h0', Rs.bind_ok]
  rw [hF]
  obtain ⟨q1, μ1, h1, _, _, m1, c1, e1⟩ := pickF k m0 19 (by omega) (by omega) (by omega)
  have hb : FF (k + 4) 52 [.sta, .int (-9), .int 9] μ0 = .ok (.int (-9 + q1)) μ1 := by
    rw [FF_b (k + 1)]
    exact betw (F := FF (k + 3)) h1
  obtain ⟨q2, μ2, h2, l2, u2, m2, c2, e2⟩ := pickF k m1 99 (by omega) (by omega) (by omega)
  obtain ⟨a1, a2, a3⟩ := t01 (F := FF (k + 4)) hb (upP h2 (k + 1)) l2 u2
  obtain ⟨q3, μ3, h3, _, _, m3, c3, e3⟩ := pickF k m0 2 (by omega) (by omega) (by omega)
  obtain ⟨q4, μ4, h4, _, _, m4, c4, e4⟩ := pickF k m3 9 (by omega) (by omega) (by omega)
  obtain ⟨b1, b2, b3⟩ := t234 (F := FF (k + 4)) (upP h3 (k + 1)) (upP h4 (k + 1))
  obtain ⟨q5, μ5, h5, _, _, m5, c5, e5⟩ := pickF k m0 9 (by omega) (by omega) (by omega)
  have hq : q = 0 ∨ q = 1 ∨ q = 2 ∨ q = 3 ∨ q = 4 ∨ q = 5 ∨ q = 6 := by omega
  have ec5 : μ5.ec = μ.ec := by omega
  rcases hq with rfl | rfl | rfl | rfl | rfl | rfl | rfl
  · exact ⟨_, μ2, a1, .int _, fun _ _ => rfl, m2, by omega, by omega⟩
  · exact ⟨_, μ2, a2, .str _ a3, fun _ _ => rfl, m2, by omega, by omega⟩
  · exact ⟨_, μ4, b1, .non, fun _ _ => rfl, m4, by omega, by omega⟩
  · exact ⟨_, μ4, b2, .bl _, fun _ _ => rfl, m4, by omega, by omega⟩
  · exact ⟨_, μ4, b3, .tup _ _, fun _ _ => rfl, m4, by omega, by omega⟩
  · exact ⟨_, μ5, t5 (upP h5 (k + 1)), .lst _ _, fun c hc => by simp [newD, newDs, ec5, hc], m5, by omega, ec5⟩
  · exact ⟨_, μ5, t6 (upP h5 (k + 1)), .dic _ _, fun c hc => by simp [newD, newKs, e0, hc], m5, by omega, ec5⟩
end GL

set_option maxHeartbeats 4000000
namespace GL
open PySem PySem.Spec PyProof.Rows L2 GW
section
variable {k : Nat} {j : Int} {v u : V} {d d' : D} {x4 x5 x6 x7 x8 x9 : SV} {μ : Mu}
abbrev roK (j n : Int) (x4 x5 x6 x7 x8 x9 : SV) : Ro := [.un, .val .sta, .val (.int j), .val (.int n), x4, x5, x6, x7, x8, x9, .un]
theorem s2_0 : s2 (FF (k + 6)) (roK j 0 (.val (.lab v d)) (.val (.lab u d')) .un .un .un .un) μ = .ok .nx (roK j 0 (.val (.lab v d)) (.val (.lab u d')) (.val (.exc "BadPrices" [("prices", v)])) (.val (ofV v)) .un .un) μ := by cases v <;> kernel_rfl
theorem s3_0 : s3 (FF (k + 6)) (roK j 0 (.val (.lab v d)) (.val (.lab u d')) x6 x7 .un .un) μ = .ok .nx (roK j 0 (.val (.lab v d)) (.val (.lab u d')) x6 x7 (.val (.exc "BadPrices" [("prices", u)])) (.val (ofV u))) μ := by cases u <;> kernel_rfl
theorem s4_0 : s4 (FF (k + 6)) (roK j 0 x4 x5 (.val (.exc "BadPrices" [("prices", v)])) x7 (.val (.exc "BadPrices" [("prices", u)])) x9) μ = .ok .nx (roK j 0 x4 x5 (.val (.exc "BadPrices" [("prices", v)])) x7 (.val (.exc "BadPrices" [("prices", u)])) x9) μ := by kernel_rfl
theorem s5_0 : s5 (FF (k + 6)) (roK j 0 x4 x5 (.val (.exc "BadPrices" [("prices", v)])) x7 (.val (.exc "BadPrices" [("prices", u)])) x9) μ = .ok .nx (roK j 0 x4 x5 (.val (.exc "BadPrices" [("prices", v)])) x7 (.val (.exc "BadPrices" [("prices", u)])) x9) μ := by kernel_rfl
theorem s2_1 : s2 (FF (k + 6)) (roK j 1 (.val (.lab v d)) (.val (.lab u d')) .un .un .un .un) μ = .ok .nx (roK j 1 (.val (.lab v d)) (.val (.lab u d')) (.val (.exc "BadWishes" [("index", v)])) (.val (ofV v)) .un .un) μ := by cases v <;> kernel_rfl
theorem s3_1 : s3 (FF (k + 6)) (roK j 1 (.val (.lab v d)) (.val (.lab u d')) x6 x7 .un .un) μ = .ok .nx (roK j 1 (.val (.lab v d)) (.val (.lab u d')) x6 x7 (.val (.exc "BadWishes" [("index", u)])) (.val (ofV u))) μ := by cases u <;> kernel_rfl
theorem s4_1 : s4 (FF (k + 6)) (roK j 1 x4 x5 (.val (.exc "BadWishes" [("index", v)])) x7 (.val (.exc "BadWishes" [("index", u)])) x9) μ = .ok .nx (roK j 1 x4 x5 (.val (.exc "BadWishes" [("index", v)])) x7 (.val (.exc "BadWishes" [("index", u)])) x9) μ := by kernel_rfl
theorem s5_1 : s5 (FF (k + 6)) (roK j 1 x4 x5 (.val (.exc "BadWishes" [("index", v)])) x7 (.val (.exc "BadWishes" [("index", u)])) x9) μ = .ok .nx (roK j 1 x4 x5 (.val (.exc "BadWishes" [("index", v)])) x7 (.val (.exc "BadWishes" [("index", u)])) x9) μ := by kernel_rfl
theorem s2_2 : s2 (FF (k + 6)) (roK j 2 (.val (.lab v d)) (.val (.lab u d')) .un .un .un .un) μ = .ok .nx (roK j 2 (.val (.lab v d)) (.val (.lab u d')) (.val (.exc "BadLevels" [("levels", v)])) (.val (ofV v)) .un .un) μ := by cases v <;> kernel_rfl
theorem s3_2 : s3 (FF (k + 6)) (roK j 2 (.val (.lab v d)) (.val (.lab u d')) x6 x7 .un .un) μ = .ok .nx (roK j 2 (.val (.lab v d)) (.val (.lab u d')) x6 x7 (.val (.exc "BadLevels" [("levels", u)])) (.val (ofV u))) μ := by cases u <;> kernel_rfl
theorem s4_2 : s4 (FF (k + 6)) (roK j 2 x4 x5 (.val (.exc "BadLevels" [("levels", v)])) x7 (.val (.exc "BadLevels" [("levels", u)])) x9) μ = .ok .nx (roK j 2 x4 x5 (.val (.exc "BadLevels" [("levels", v)])) x7 (.val (.exc "BadLevels" [("levels", u)])) x9) μ := by kernel_rfl
theorem s5_2 : s5 (FF (k + 6)) (roK j 2 x4 x5 (.val (.exc "BadLevels" [("levels", v)])) x7 (.val (.exc "BadLevels" [("levels", u)])) x9) μ = .ok .nx (roK j 2 x4 x5 (.val (.exc "BadLevels" [("levels", v)])) x7 (.val (.exc "BadLevels" [("levels", u)])) x9) μ := by kernel_rfl
theorem s2_3 : s2 (FF (k + 6)) (roK j 3 (.val (.lab v d)) (.val (.lab u d')) .un .un .un .un) μ = .ok .nx (roK j 3 (.val (.lab v d)) (.val (.lab u d')) (.val (.exc "NotStraight" [("index", v)])) (.val (ofV v)) .un .un) μ := by cases v <;> kernel_rfl
theorem s3_3 : s3 (FF (k + 6)) (roK j 3 (.val (.lab v d)) (.val (.lab u d')) x6 x7 .un .un) μ = .ok .nx (roK j 3 (.val (.lab v d)) (.val (.lab u d')) x6 x7 (.val (.exc "NotStraight" [("index", u)])) (.val (ofV u))) μ := by cases u <;> kernel_rfl
theorem s4_3 : s4 (FF (k + 6)) (roK j 3 x4 x5 (.val (.exc "NotStraight" [("index", v)])) x7 (.val (.exc "NotStraight" [("index", u)])) x9) μ = .ok .nx (roK j 3 x4 x5 (.val (.exc "NotStraight" [("index", v)])) x7 (.val (.exc "NotStraight" [("index", u)])) x9) μ := by kernel_rfl
theorem s5_3 : s5 (FF (k + 6)) (roK j 3 x4 x5 (.val (.exc "NotStraight" [("index", v)])) x7 (.val (.exc "NotStraight" [("index", u)])) x9) μ = .ok .nx (roK j 3 x4 x5 (.val (.exc "NotStraight" [("index", v)])) x7 (.val (.exc "NotStraight" [("index", u)])) x9) μ := by kernel_rfl
theorem s2_4 : s2 (FF (k + 6)) (roK j 4 (.val (.lab v d)) (.val (.lab u d')) .un .un .un .un) μ = .ok .nx (roK j 4 (.val (.lab v d)) (.val (.lab u d')) (.val (.exc "BadAsks" [("index", v)])) (.val (ofV v)) .un .un) μ := by cases v <;> kernel_rfl
theorem s3_4 : s3 (FF (k + 6)) (roK j 4 (.val (.lab v d)) (.val (.lab u d')) x6 x7 .un .un) μ = .ok .nx (roK j 4 (.val (.lab v d)) (.val (.lab u d')) x6 x7 (.val (.exc "BadAsks" [("index", u)])) (.val (ofV u))) μ := by cases u <;> kernel_rfl
theorem s4_4 : s4 (FF (k + 6)) (roK j 4 x4 x5 (.val (.exc "BadAsks" [("index", v)])) x7 (.val (.exc "BadAsks" [("index", u)])) x9) μ = .ok .nx (roK j 4 x4 x5 (.val (.exc "BadAsks" [("index", v)])) x7 (.val (.exc "BadAsks" [("index", u)])) x9) μ := by kernel_rfl
theorem s5_4 : s5 (FF (k + 6)) (roK j 4 x4 x5 (.val (.exc "BadAsks" [("index", v)])) x7 (.val (.exc "BadAsks" [("index", u)])) x9) μ = .ok .nx (roK j 4 x4 x5 (.val (.exc "BadAsks" [("index", v)])) x7 (.val (.exc "BadAsks" [("index", u)])) x9) μ := by kernel_rfl
theorem s2_5 : s2 (FF (k + 6)) (roK j 5 (.val (.lab v d)) (.val (.lab u d')) .un .un .un .un) μ = .ok .nx (roK j 5 (.val (.lab v d)) (.val (.lab u d')) (.val (.exc "NotApart" [("index", v)])) (.val (ofV v)) .un .un) μ := by cases v <;> kernel_rfl
theorem s3_5 : s3 (FF (k + 6)) (roK j 5 (.val (.lab v d)) (.val (.lab u d')) x6 x7 .un .un) μ = .ok .nx (roK j 5 (.val (.lab v d)) (.val (.lab u d')) x6 x7 (.val (.exc "NotApart" [("index", u)])) (.val (ofV u))) μ := by cases u <;> kernel_rfl
theorem s4_5 : s4 (FF (k + 6)) (roK j 5 x4 x5 (.val (.exc "NotApart" [("index", v)])) x7 (.val (.exc "NotApart" [("index", u)])) x9) μ = .ok .nx (roK j 5 x4 x5 (.val (.exc "NotApart" [("index", v)])) x7 (.val (.exc "NotApart" [("index", u)])) x9) μ := by kernel_rfl
theorem s5_5 : s5 (FF (k + 6)) (roK j 5 x4 x5 (.val (.exc "NotApart" [("index", v)])) x7 (.val (.exc "NotApart" [("index", u)])) x9) μ = .ok .nx (roK j 5 x4 x5 (.val (.exc "NotApart" [("index", v)])) x7 (.val (.exc "NotApart" [("index", u)])) x9) μ := by kernel_rfl
theorem s2_6 : s2 (FF (k + 6)) (roK j 6 (.val (.lab v d)) (.val (.lab u d')) .un .un .un .un) μ = .ok .nx (roK j 6 (.val (.lab v d)) (.val (.lab u d')) (.val (.exc "BadStrategy" [("strategy", v)])) (.val (ofV v)) .un .un) μ := by cases v <;> kernel_rfl
theorem s3_6 : s3 (FF (k + 6)) (roK j 6 (.val (.lab v d)) (.val (.lab u d')) x6 x7 .un .un) μ = .ok .nx (roK j 6 (.val (.lab v d)) (.val (.lab u d')) x6 x7 (.val (.exc "BadStrategy" [("strategy", u)])) (.val (ofV u))) μ := by cases u <;> kernel_rfl
theorem s4_6 : s4 (FF (k + 6)) (roK j 6 x4 x5 (.val (.exc "BadStrategy" [("strategy", v)])) x7 (.val (.exc "BadStrategy" [("strategy", u)])) x9) μ = .ok .nx (roK j 6 x4 x5 (.val (.exc "BadStrategy" [("strategy", v)])) x7 (.val (.exc "BadStrategy" [("strategy", u)])) x9) μ := by kernel_rfl
theorem s5_6 : s5 (FF (k + 6)) (roK j 6 x4 x5 (.val (.exc "BadStrategy" [("strategy", v)])) x7 (.val (.exc "BadStrategy" [("strategy", u)])) x9) μ = .ok .nx (roK j 6 x4 x5 (.val (.exc "BadStrategy" [("strategy", v)])) x7 (.val (.exc "BadStrategy" [("strategy", u)])) x9) μ := by kernel_rfl
theorem s2_7 : s2 (FF (k + 6)) (roK j 7 (.val (.lab v d)) (.val (.lab u d')) .un .un .un .un) μ = .ok .nx (roK j 7 (.val (.lab v d)) (.val (.lab u d')) (.val (.exc "BadEdit" [("edit", v)])) (.val (ofV v)) .un .un) μ := by cases v <;> kernel_rfl
theorem s3_7 : s3 (FF (k + 6)) (roK j 7 (.val (.lab v d)) (.val (.lab u d')) x6 x7 .un .un) μ = .ok .nx (roK j 7 (.val (.lab v d)) (.val (.lab u d')) x6 x7 (.val (.exc "BadEdit" [("edit", u)])) (.val (ofV u))) μ := by cases u <;> kernel_rfl
theorem s4_7 : s4 (FF (k + 6)) (roK j 7 x4 x5 (.val (.exc "BadEdit" [("edit", v)])) x7 (.val (.exc "BadEdit" [("edit", u)])) x9) μ = .ok .nx (roK j 7 x4 x5 (.val (.exc "BadEdit" [("edit", v)])) x7 (.val (.exc "BadEdit" [("edit", u)])) x9) μ := by kernel_rfl
theorem s5_7 : s5 (FF (k + 6)) (roK j 7 x4 x5 (.val (.exc "BadEdit" [("edit", v)])) x7 (.val (.exc "BadEdit" [("edit", u)])) x9) μ = .ok .nx (roK j 7 x4 x5 (.val (.exc "BadEdit" [("edit", v)])) x7 (.val (.exc "BadEdit" [("edit", u)])) x9) μ := by kernel_rfl
theorem s2_8 : s2 (FF (k + 6)) (roK j 8 (.val (.lab v d)) (.val (.lab u d')) .un .un .un .un) μ = .ok .nx (roK j 8 (.val (.lab v d)) (.val (.lab u d')) (.val (.exc "BadDesk" [("desk", v)])) (.val (ofV v)) .un .un) μ := by cases v <;> kernel_rfl
theorem s3_8 : s3 (FF (k + 6)) (roK j 8 (.val (.lab v d)) (.val (.lab u d')) x6 x7 .un .un) μ = .ok .nx (roK j 8 (.val (.lab v d)) (.val (.lab u d')) x6 x7 (.val (.exc "BadDesk" [("desk", u)])) (.val (ofV u))) μ := by cases u <;> kernel_rfl
theorem s4_8 : s4 (FF (k + 6)) (roK j 8 x4 x5 (.val (.exc "BadDesk" [("desk", v)])) x7 (.val (.exc "BadDesk" [("desk", u)])) x9) μ = .ok .nx (roK j 8 x4 x5 (.val (.exc "BadDesk" [("desk", v)])) x7 (.val (.exc "BadDesk" [("desk", u)])) x9) μ := by kernel_rfl
theorem s5_8 : s5 (FF (k + 6)) (roK j 8 x4 x5 (.val (.exc "BadDesk" [("desk", v)])) x7 (.val (.exc "BadDesk" [("desk", u)])) x9) μ = .ok .nx (roK j 8 x4 x5 (.val (.exc "BadDesk" [("desk", v)])) x7 (.val (.exc "BadDesk" [("desk", u)])) x9) μ := by kernel_rfl
theorem s2_9 : s2 (FF (k + 6)) (roK j 9 (.val (.lab v d)) (.val (.lab u d')) .un .un .un .un) μ = .ok .nx (roK j 9 (.val (.lab v d)) (.val (.lab u d')) (.val (.exc "BadDeskText" [("line", v)])) (.val (ofV v)) .un .un) μ := by cases v <;> kernel_rfl
theorem s3_9 : s3 (FF (k + 6)) (roK j 9 (.val (.lab v d)) (.val (.lab u d')) x6 x7 .un .un) μ = .ok .nx (roK j 9 (.val (.lab v d)) (.val (.lab u d')) x6 x7 (.val (.exc "BadDeskText" [("line", u)])) (.val (ofV u))) μ := by cases u <;> kernel_rfl
theorem s4_9 : s4 (FF (k + 6)) (roK j 9 x4 x5 (.val (.exc "BadDeskText" [("line", v)])) x7 (.val (.exc "BadDeskText" [("line", u)])) x9) μ = .ok .nx (roK j 9 x4 x5 (.val (.exc "BadDeskText" [("line", v)])) x7 (.val (.exc "BadDeskText" [("line", u)])) x9) μ := by kernel_rfl
theorem s5_9 : s5 (FF (k + 6)) (roK j 9 x4 x5 (.val (.exc "BadDeskText" [("line", v)])) x7 (.val (.exc "BadDeskText" [("line", u)])) x9) μ = .ok .nx (roK j 9 x4 x5 (.val (.exc "BadDeskText" [("line", v)])) x7 (.val (.exc "BadDeskText" [("line", u)])) x9) μ := by kernel_rfl
theorem s2_10 (hv : ObV d) : s2 (FF (k + 6)) (roK j 10 (.val (.lab v d)) (.val (.lab u d')) .un .un .un .un) μ = .ok .nx (roK j 10 (.val (.lab v d)) (.val (.lab u d')) (.val (.exc "NothingToUndo" [])) (.val (.lab v d)) .un .un) μ := by cases hv <;> kernel_rfl
theorem s3_10 (hv : ObV d') : s3 (FF (k + 6)) (roK j 10 (.val (.lab v d)) (.val (.lab u d')) x6 x7 .un .un) μ = .ok .nx (roK j 10 (.val (.lab v d)) (.val (.lab u d')) x6 x7 (.val (.exc "NothingToUndo" [])) (.val (.lab u d'))) μ := by cases hv <;> kernel_rfl
theorem s4_10 : s4 (FF (k + 6)) (roK j 10 x4 x5 (.val (.exc "NothingToUndo" [])) x7 (.val (.exc "NothingToUndo" [])) x9) μ = .ok .nx (roK j 10 x4 x5 (.val (.exc "NothingToUndo" [])) x7 (.val (.exc "NothingToUndo" [])) x9) μ := by kernel_rfl
theorem s5_10 : s5 (FF (k + 6)) (roK j 10 x4 x5 (.val (.exc "NothingToUndo" [])) x7 (.val (.exc "NothingToUndo" [])) x9) μ = .ok .nx (roK j 10 x4 x5 (.val (.exc "NothingToUndo" [])) x7 (.val (.exc "NothingToUndo" [])) x9) μ := by kernel_rfl
theorem s2_11 (hv : ObV d) : s2 (FF (k + 6)) (roK j 11 (.val (.lab v d)) (.val (.lab u d')) .un .un .un .un) μ = .ok .nx (roK j 11 (.val (.lab v d)) (.val (.lab u d')) (.val (.exc "NothingToRedo" [])) (.val (.lab v d)) .un .un) μ := by cases hv <;> kernel_rfl
theorem s3_11 (hv : ObV d') : s3 (FF (k + 6)) (roK j 11 (.val (.lab v d)) (.val (.lab u d')) x6 x7 .un .un) μ = .ok .nx (roK j 11 (.val (.lab v d)) (.val (.lab u d')) x6 x7 (.val (.exc "NothingToRedo" [])) (.val (.lab u d'))) μ := by cases hv <;> kernel_rfl
theorem s4_11 : s4 (FF (k + 6)) (roK j 11 x4 x5 (.val (.exc "NothingToRedo" [])) x7 (.val (.exc "NothingToRedo" [])) x9) μ = .ok .nx (roK j 11 x4 x5 (.val (.exc "NothingToRedo" [])) x7 (.val (.exc "NothingToRedo" [])) x9) μ := by kernel_rfl
theorem s5_11 : s5 (FF (k + 6)) (roK j 11 x4 x5 (.val (.exc "NothingToRedo" [])) x7 (.val (.exc "NothingToRedo" [])) x9) μ = .ok .nx (roK j 11 x4 x5 (.val (.exc "NothingToRedo" [])) x7 (.val (.exc "NothingToRedo" [])) x9) μ := by kernel_rfl
theorem fgt_res {n : Int} {v u : V} {d d' : D} : Fgt (roK j n (.val (.lab v d)) (.val (.lab u d')) x6 x7 x8 x9) (resR (roK j n (.val d) (.val d') .un .un .un .un)) := by
  refine ⟨rfl, fun i => ?_⟩
  match i with
  | 0 => exact .inl rfl
  | 1 => exact .inl rfl
  | 2 => exact .inl rfl
  | 3 => exact .inr rfl
  | 4 => exact .inr rfl
  | 5 => exact .inr rfl
  | 6 => exact .inr rfl
  | 7 => exact .inr rfl
  | 8 => exact .inr rfl
  | 9 => exact .inr rfl
  | i + 10 => exact .inl rfl
/-- a turn behind the drawn things -/
theorem turn_of {n : Int} {c : Nat} (f6 f8 : V → D) (f7 f9 : V → D → D) (e2 : ∀ v u, s2 (FF (k + 6)) (roK j n (.val (.lab v d)) (.val (.lab u d')) .un .un .un .un) μ = .ok .nx (roK j n (.val (.lab v d)) (.val (.lab u d')) (.val (f6 v)) (.val (f7 v d)) .un .un) μ)
    (e3 : ∀ v u x6 x7, s3 (FF (k + 6)) (roK j n (.val (.lab v d)) (.val (.lab u d')) x6 x7 .un .un) μ = .ok .nx (roK j n (.val (.lab v d)) (.val (.lab u d')) x6 x7 (.val (f8 u)) (.val (f9 u d'))) μ)
    (e4 : ∀ v u x4 x5 x7 x9, s4 (FF (k + 6)) (roK j n x4 x5 (.val (f6 v)) x7 (.val (f8 u)) x9) μ = .ok .nx (roK j n x4 x5 (.val (f6 v)) x7 (.val (f8 u)) x9) μ)
    (e5 : ∀ v u x4 x5 x7 x9, s5 (FF (k + 6)) (roK j n x4 x5 (.val (f6 v)) x7 (.val (f8 u)) x9) μ = .ok .nx (roK j n x4 x5 (.val (f6 v)) x7 (.val (f8 u)) x9) μ)
    (g7 : ∀ v d, f7 v d = ofV v ∨ f7 v d = .lab v d) (g9 : ∀ v d, f9 v d = ofV v ∨ f9 v d = .lab v d) (h1 : ObV d) (h2 : ObV d') (n1 : newD c d = true) (n2 : newD c d' = true) :
    rL (FF (k + 6)) c (roK j n (.val d) (.val d') .un .un .un .un) μ = .ok .nx [.un, .val .sta, .val (.int j), .un, .un, .un, .un, .un, .un, .un, .un] μ := by
  have h : RLc (FF (k + 6)) c (roK j n (.val d) (.val d') .un .un .un .un) μ := by
    refine ⟨h1.dat, h2.dat, fun v u => ⟨_, ?_, fgt_res (v := v) (u := u) (x6 := .val (f6 v)) (x7 := .val (f7 v d)) (x8 := .val (f8 u)) (x9 := .val (f9 u d'))⟩⟩
    have z : rV c (roK j n (.val (.lab v d)) (.val (.lab u d')) (.val (f6 v)) (.val (f7 v d)) (.val (f8 u)) (.val (f9 u d'))) μ = .ok .nx (roK j n (.val (.lab v d)) (.val (.lab u d')) (.val (f6 v)) (.val (f7 v d)) (.val (f8 u)) (.val (f9 u d'))) μ :=
      if_pos ⟨v, u, d, d', (g7 v d).elim (fun e => .inl (by rw [← e]; rfl)) (fun e => .inr (by rw [← e]; rfl)), rfl, (g9 u d').elim (fun e => .inl (by rw [← e]; rfl)) (fun e => .inr (by rw [← e]; rfl)), rfl, h1.obj, h2.obj, n1, n2⟩
    show midR (FF (k + 6)) c (roK j n (.val (.lab v d)) (.val (.lab u d')) .un .un .un .un) μ = _
    unfold midR
    simp only [sCons, e2, e3, e4, e5, Rs.bind_ok, z]
  unfold rL
  rw [if_pos h]
  rfl
end
/-- the place -/
theorem s0_lt (k : Nat) {j r : Int} {x3 x4 x5 x6 x7 x8 x9 : SV} {μ μ' : Mu} (hj : j < 12) (h : FF (k + 6) 51 [.sta, .int 12] μ = .ok (.int r) μ') : s0 (FF (k + 6)) [.un, .val .sta, .val (.int j), x3, x4, x5, x6, x7, x8, x9, .un] μ = .ok .nx (roK j ((j + r) % 12) x4 x5 x6 x7 x8 x9) μ' := by
  simp [s0, sSet, evIte, toT, ev2, cmpK, opCmp, evVar, evK, two, rsv, rsvs, GW.ret, truR, tru, hj, evC, kInt, aCons, evCall, callF, passA, pass1, h, flatR, opBin, datR, fz, isDat, roK]
theorem s0_ge (k : Nat) {j : Int} {x3 x4 x5 x6 x7 x8 x9 : SV} {μ : Mu} (hj : ¬ j < 12) : s0 (FF (k + 6)) [.un, .val .sta, .val (.int j), x3, x4, x5, x6, x7, x8, x9, .un] μ = .ok .nx (roK j (j - 12) x4 x5 x6 x7 x8 x9) μ := by
  simp [s0, sSet, evIte, toT, ev2, cmpK, opCmp, evVar, evK, two, rsv, GW.ret, truR, tru, hj, opBin, datR, fz, isDat, roK]
theorem fz_ob {d : D} (h : ObV d) (ρ : Ro) : fz d ρ = some (d, ρ) := by cases h <;> first | rfl | kernel_rfl
theorem c_ob {G : List D → Mu → Rf} {ρ : Ro} {μ μ1 : Mu} {d : D} (e : ρ[1]? = some (.val .sta)) (h : G [.sta] μ = .ok d μ1) : evCall 1 G (aCons (evVar 1) (aNil)) ρ μ = .ok d ρ μ1 := by
  simp only [evCall, aCons, evVar, e, Rs.bind_ok, List.length_cons, List.length_nil, callF, passA, pass1, h, if_true, giveA, give1, ite_self]
theorem c_pk {G : List D → Mu → Rf} {ρ : Ro} {μ μ1 : Mu} {m r : Int} (e : ρ[1]? = some (.val .sta)) (h : G [.sta, .int m] μ = .ok (.int r) μ1) : evCall 2 G (aCons (evVar 1) (aCons (evK (.int m)) (aNil))) ρ μ = .ok (.int r) ρ μ1 := by
  simp only [evCall, aCons, evVar, evK, e, Rs.bind_ok, List.length_cons, List.length_nil, callF, passA, pass1, h, if_true, giveA, give1, ite_self]
theorem s1_at (k : Nat) {j n : Int} {d d' : D} {x4 x5 x6 x7 x8 x9 : SV} {μ μ1 μ2 : Mu} (h1 : FF (k + 6) 60 [.sta] μ = .ok d μ1) (h2 : FF (k + 6) 60 [.sta] μ1 = .ok d' μ2) (o1 : ObV d) (o2 : ObV d') : s1 (FF (k + 6)) (roK j n x4 x5 x6 x7 x8 x9) μ = .ok .nx (roK j n (.val d) (.val d') x6 x7 x8 x9) μ2 := by
  unfold s1 pE
  rw [c_ob rfl h1]
  simp only [Rs.bind_ok, datR, fz_ob o1]
  rw [c_ob rfl h2]
  simp only [Rs.bind_ok, datR, fz_ob o2, sNil]
  rfl
/-- one turn -/
theorem turnF (k : Nat) {j : Int} {x2 : SV} {μ : Mu} (h0 : 0 ≤ j) (h9 : j < 24) (hm : MuOk μ) (hc : μ.cnt + 30 < 2 ^ 40) : ∃ μ', turnR (FF (k + 6)) [.un, .val .sta, .val (.int j), .un, .un, .un, .un, .un, .un, .un, .un] μ = .ok .nx [.un, .val .sta, .val (.int j), .un, .un, .un, .un, .un, .un, .un, .un] μ' ∧ MuOk μ' ∧ μ'.cnt ≤ μ.cnt + 13 := by
  have hm' : MuOk (newEra μ) := ⟨hm.n, hm.bits, hm.b0, hm.b1, hm.c0, hm.c1, hm.s0, hm.s1⟩
  have hc' : (newEra μ).cnt = μ.cnt := rfl
  have hec : (newEra μ).ec = μ.ec + 1 := rfl
  obtain ⟨n, μ1, es0, n0, n1, m1, c1, ec1⟩ : ∃ (n : Int) (μ1 : Mu), s0 (FF (k + 6)) [.un, .val .sta, .val (.int j), .un, .un, .un, .un, .un, .un, .un, .un] (newEra μ) = .ok .nx (roK j n .un .un .un .un .un .un) μ1 ∧ 0 ≤ n ∧ n < 12 ∧ MuOk μ1 ∧ μ1.cnt ≤ μ.cnt + 1 ∧ μ1.ec = μ.ec + 1 := by
    by_cases hj : j < 12
    · obtain ⟨r, μ1, h, _, _, m1, c1, e1⟩ := pickF (k + 3) hm' 12 (by omega) (by omega) (by omega)
      exact ⟨(j + r) % 12, μ1, s0_lt k hj h, Int.emod_nonneg _ (by omega), Int.emod_lt_of_pos _ (by omega), m1, by omega, by omega⟩
    · exact ⟨j - 12, newEra μ, s0_ge k hj, by omega, by omega, hm', by omega, hec⟩
  obtain ⟨d, μ2, e2, o1, nd1, m2, c2, ec2⟩ := objF (k + 1) m1 (by omega)
  obtain ⟨d', μ3, e3, o2, nd2, m3, c3, ec3⟩ := objF (k + 1) m2 (by omega)
  have es1 := s1_at k (j := j) (n := n) (x4 := .un) (x5 := .un) (x6 := .un) (x7 := .un) (x8 := .un) (x9 := .un) e2 e3 o1 o2
  refine ⟨μ3, ?_, m3, by omega⟩
  have go : rL (FF (k + 6)) μ.ec (roK j n (.val d) (.val d') .un .un .un .un) μ3 = .ok .nx [.un, .val .sta, .val (.int j), .un, .un, .un, .un, .un, .un, .un, .un] μ3 := by
    have a1 := nd1 μ.ec (by omega)
    have a2 := nd2 μ.ec (by omega)
    have hn : n = 0 ∨ n = 1 ∨ n = 2 ∨ n = 3 ∨ n = 4 ∨ n = 5 ∨ n = 6 ∨ n = 7 ∨ n = 8 ∨ n = 9 ∨ n = 10 ∨ n = 11 := by omega
    rcases hn with rfl | rfl | rfl | rfl | rfl | rfl | rfl | rfl | rfl | rfl | rfl | rfl
    · exact turn_of (fun v => (.exc "BadPrices" [("prices", v)])) (fun v => (.exc "BadPrices" [("prices", v)])) (fun v d => (ofV v)) (fun v d => (ofV v)) (fun v u => s2_0) (fun v u x6 x7 => s3_0) (fun v u x4 x5 x7 x9 => s4_0) (fun v u x4 x5 x7 x9 => s5_0) (fun v d => .inl rfl) (fun v d => .inl rfl) o1 o2 a1 a2
    · exact turn_of (fun v => (.exc "BadWishes" [("index", v)])) (fun v => (.exc "BadWishes" [("index", v)])) (fun v d => (ofV v)) (fun v d => (ofV v)) (fun v u => s2_1) (fun v u x6 x7 => s3_1) (fun v u x4 x5 x7 x9 => s4_1) (fun v u x4 x5 x7 x9 => s5_1) (fun v d => .inl rfl) (fun v d => .inl rfl) o1 o2 a1 a2
    · exact turn_of (fun v => (.exc "BadLevels" [("levels", v)])) (fun v => (.exc "BadLevels" [("levels", v)])) (fun v d => (ofV v)) (fun v d => (ofV v)) (fun v u => s2_2) (fun v u x6 x7 => s3_2) (fun v u x4 x5 x7 x9 => s4_2) (fun v u x4 x5 x7 x9 => s5_2) (fun v d => .inl rfl) (fun v d => .inl rfl) o1 o2 a1 a2
    · exact turn_of (fun v => (.exc "NotStraight" [("index", v)])) (fun v => (.exc "NotStraight" [("index", v)])) (fun v d => (ofV v)) (fun v d => (ofV v)) (fun v u => s2_3) (fun v u x6 x7 => s3_3) (fun v u x4 x5 x7 x9 => s4_3) (fun v u x4 x5 x7 x9 => s5_3) (fun v d => .inl rfl) (fun v d => .inl rfl) o1 o2 a1 a2
    · exact turn_of (fun v => (.exc "BadAsks" [("index", v)])) (fun v => (.exc "BadAsks" [("index", v)])) (fun v d => (ofV v)) (fun v d => (ofV v)) (fun v u => s2_4) (fun v u x6 x7 => s3_4) (fun v u x4 x5 x7 x9 => s4_4) (fun v u x4 x5 x7 x9 => s5_4) (fun v d => .inl rfl) (fun v d => .inl rfl) o1 o2 a1 a2
    · exact turn_of (fun v => (.exc "NotApart" [("index", v)])) (fun v => (.exc "NotApart" [("index", v)])) (fun v d => (ofV v)) (fun v d => (ofV v)) (fun v u => s2_5) (fun v u x6 x7 => s3_5) (fun v u x4 x5 x7 x9 => s4_5) (fun v u x4 x5 x7 x9 => s5_5) (fun v d => .inl rfl) (fun v d => .inl rfl) o1 o2 a1 a2
    · exact turn_of (fun v => (.exc "BadStrategy" [("strategy", v)])) (fun v => (.exc "BadStrategy" [("strategy", v)])) (fun v d => (ofV v)) (fun v d => (ofV v)) (fun v u => s2_6) (fun v u x6 x7 => s3_6) (fun v u x4 x5 x7 x9 => s4_6) (fun v u x4 x5 x7 x9 => s5_6) (fun v d => .inl rfl) (fun v d => .inl rfl) o1 o2 a1 a2
    · exact turn_of (fun v => (.exc "BadEdit" [("edit", v)])) (fun v => (.exc "BadEdit" [("edit", v)])) (fun v d => (ofV v)) (fun v d => (ofV v)) (fun v u => s2_7) (fun v u x6 x7 => s3_7) (fun v u x4 x5 x7 x9 => s4_7) (fun v u x4 x5 x7 x9 => s5_7) (fun v d => .inl rfl) (fun v d => .inl rfl) o1 o2 a1 a2
    · exact turn_of (fun v => (.exc "BadDesk" [("desk", v)])) (fun v => (.exc "BadDesk" [("desk", v)])) (fun v d => (ofV v)) (fun v d => (ofV v)) (fun v u => s2_8) (fun v u x6 x7 => s3_8) (fun v u x4 x5 x7 x9 => s4_8) (fun v u x4 x5 x7 x9 => s5_8) (fun v d => .inl rfl) (fun v d => .inl rfl) o1 o2 a1 a2
    · exact turn_of (fun v => (.exc "BadDeskText" [("line", v)])) (fun v => (.exc "BadDeskText" [("line", v)])) (fun v d => (ofV v)) (fun v d => (ofV v)) (fun v u => s2_9) (fun v u x6 x7 => s3_9) (fun v u x4 x5 x7 x9 => s4_9) (fun v u x4 x5 x7 x9 => s5_9) (fun v d => .inl rfl) (fun v d => .inl rfl) o1 o2 a1 a2
    · exact turn_of (fun v => (.exc "NothingToUndo" [])) (fun v => (.exc "NothingToUndo" [])) (fun v d => (.lab v d)) (fun v d => (.lab v d)) (fun v u => s2_10 o1) (fun v u x6 x7 => s3_10 o2) (fun v u x4 x5 x7 x9 => s4_10) (fun v u x4 x5 x7 x9 => s5_10) (fun v d => .inr rfl) (fun v d => .inr rfl) o1 o2 a1 a2
    · exact turn_of (fun v => (.exc "NothingToRedo" [])) (fun v => (.exc "NothingToRedo" [])) (fun v d => (.lab v d)) (fun v d => (.lab v d)) (fun v u => s2_11 o1) (fun v u x6 x7 => s3_11 o2) (fun v u x4 x5 x7 x9 => s4_11) (fun v u x4 x5 x7 x9 => s5_11) (fun v d => .inr rfl) (fun v d => .inr rfl) o1 o2 a1 a2
  show sCons (s0 (FF (k + 6))) (sCons (s1 (FF (k + 6))) (rL (FF (k + 6)) μ.ec)) [.un, .val .sta, .val (.int j), .un, .un, .un, .un, .un, .un, .un, .un] (newEra μ) = _
  unfold sCons
  simp only [es0, Rs.bind_ok, es1, go]
/-! ### the loop, the end -/
noncomputable def loopT (F : Fs) : Ro → Mu → Rs Fl := sFor (evR1 (evK (.int 24))) (tNm 2) (turnR F)
def tailT (F : Fs) : Ro → Mu → Rs Fl := sCons (sIf (notT (toT (evC kAll (aCons (evN (evLc (evIt (evCall 1 (F 55) (aCons (evCall 2 (F 51) (aCons (evVar 1) (aCons (evK (.int 9)) (aNil)))) (aNil)))) (tNm 10) (evYes) (ev2 (cmpK .Eq) (evCall 1 (F 54) (aCons (evVar 10) (aNil))) (evN (dispL (aNil)))) [10])) (aNil))))) (sCons (sRet (evK (.bl false)))
  (sNil)) (sNil))
  (sCons (sRet (ev2 (cmpK .Eq) (evCall 1 (cF F) (aCons (evCall 1 (F 60) (aCons (evVar 1) (aNil))) (aNil))) (dispT (aCons (evN (dispL (aCons (evK (.int 4)) (aNil)))) (aCons (evN (dispL (aNil))) (aCons (evK (.bl false)) (aCons (evK (.bl true)) (aNil))))))))
  (sNil))
theorem law_eq (F : Fs) : b63 F = sCons (loopT F) (tailT F) := rfl
theorem fin_inv {r : Rs Fl} {d : D} {μ : Mu} (h : r.fin = .ok d μ) (hd : d ≠ .non) : ∃ ρ', r = .ok (.rt d) ρ' μ := by
  cases r with
  | ok o ρ' μ' =>
    cases o with
    | nx => cases h; exact absurd rfl hd
    | rt d' => cases h; exact ⟨ρ', rfl⟩
  | ex x fs ρ' μ' => cases h
  | no => cases h
theorem call1 {G : List D → Mu → Rf} {f : Ro → Mu → Rs D} {ρ : Ro} {μ μ1 : Mu} {d : D} (h : f ρ μ = .ok d ρ μ1) : evCall 1 G (aCons f aNil) ρ μ = callF G [d] ρ μ1 := by
  simp only [evCall, aCons, h, Rs.bind_ok, List.length_cons, List.length_nil, if_true]
def ifT (F : Fs) : Ro → Mu → Rs Fl := sIf (notT (toT (evC kAll (aCons (evN (evLc (evIt (evCall 1 (F 55) (aCons (evCall 2 (F 51) (aCons (evVar 1) (aCons (evK (.int 9)) (aNil)))) (aNil)))) (tNm 10) (evYes) (ev2 (cmpK .Eq) (evCall 1 (F 54) (aCons (evVar 10) (aNil))) (evN (dispL (aNil)))) [10])) (aNil))))) (sCons (sRet (evK (.bl false)))
  (sNil)) (sNil)
def restT (F : Fs) : Ro → Mu → Rs Fl := sCons (sRet (ev2 (cmpK .Eq) (evCall 1 (cF F) (aCons (evCall 1 (F 60) (aCons (evVar 1) (aNil))) (aNil))) (dispT (aCons (evN (dispL (aCons (evK (.int 4)) (aNil)))) (aCons (evN (dispL (aNil))) (aCons (evK (.bl false)) (aCons (evK (.bl true)) (aNil))))))))
  (sNil)
theorem tail_eq (F : Fs) : tailT F = sCons (ifT F) (restT F) := rfl
def ifD (F : Fs) (r : Int) : Ro → Mu → Rs Fl := sIf (notT (toT (evC kAll (aCons (evN (evLc (evIt (evCall 1 (F 55) (aCons (evK (.int r)) (aNil)))) (tNm 10) (evYes) (ev2 (cmpK .Eq) (evCall 1 (F 54) (aCons (evVar 10) (aNil))) (evN (dispL (aNil)))) [10])) (aNil))))) (sCons (sRet (evK (.bl false)))
  (sNil)) (sNil)
theorem ifD_eval (k : Nat) {x2 : SV} {r : Int} {μ : Mu} : ifD (FF (k + 6)) r [.un, .val .sta, x2, .un, .un, .un, .un, .un, .un, .un, .un] μ = .ok .nx [.un, .val .sta, x2, .un, .un, .un, .un, .un, .un, .un, .un] μ := by kernel_rfl
def tailD (F : Fs) (d : D) : Ro → Mu → Rs Fl := sCons (sRet (ev2 (cmpK .Eq) (evCall 1 (cF F) (aCons (evK d) (aNil))) (dispT (aCons (evN (dispL (aCons (evK (.int 4)) (aNil)))) (aCons (evN (dispL (aNil))) (aCons (evK (.bl false)) (aCons (evK (.bl true)) (aNil))))))))
  (sNil)
theorem tailD_eval (k : Nat) {x2 : SV} {d : D} {μ : Mu} (o : ObV d) : (tailD (FF (k + 6)) d [.un, .val .sta, x2, .un, .un, .un, .un, .un, .un, .un, .un] μ).fin = .ok (.bl true) μ := by cases o <;> kernel_rfl
theorem tail_eval (k : Nat) {x2 : SV} {μ : Mu} (hm : MuOk μ) (hc : μ.cnt + 30 < 2 ^ 40) : ∃ ρ' μ', tailT (FF (k + 6)) [.un, .val .sta, x2, .un, .un, .un, .un, .un, .un, .un, .un] μ = .ok (.rt (.bl true)) ρ' μ' := by
  obtain ⟨r, μ1, h1, _, _, m1, c1, _⟩ := pickF (k + 3) hm 9 (by omega) (by omega) (by omega)
  obtain ⟨d, μ2, e2, o1, _, _, _, _⟩ := objF (k + 1) m1 (by omega)
  obtain ⟨ρ', e⟩ := fin_inv (tailD_eval k (x2 := x2) (μ := μ2) o1) (fun z => nomatch z)
  refine ⟨ρ', μ2, ?_⟩
  have e0 : evCall 1 (FF (k + 6) 55) (aCons (evCall 2 (FF (k + 6) 51) (aCons (evVar 1) (aCons (evK (.int 9)) (aNil)))) (aNil)) [.un, .val .sta, x2, .un, .un, .un, .un, .un, .un, .un, .un] μ = evCall 1 (FF (k + 6) 55) (aCons (evK (.int r)) (aNil)) [.un, .val .sta, x2, .un, .un, .un, .un, .un, .un, .un, .un] μ1 :=
    (call1 (c_pk rfl h1)).trans (call1 (f := evK (.int r)) rfl).symm
  have e1 : evCall 1 (cF (FF (k + 6))) (aCons (evCall 1 (FF (k + 6) 60) (aCons (evVar 1) (aNil))) (aNil)) [.un, .val .sta, x2, .un, .un, .un, .un, .un, .un, .un, .un] μ1 = evCall 1 (cF (FF (k + 6))) (aCons (evK d) (aNil)) [.un, .val .sta, x2, .un, .un, .un, .un, .un, .un, .un, .un] μ2 :=
    (call1 (c_ob rfl e2)).trans (call1 (f := evK d) rfl).symm
  have ei : ifT (FF (k + 6)) [.un, .val .sta, x2, .un, .un, .un, .un, .un, .un, .un, .un] μ = .ok .nx [.un, .val .sta, x2, .un, .un, .un, .un, .un, .un, .un, .un] μ1 := by
    rw [← ifD_eval k (x2 := x2) (r := r) (μ := μ1)]
    have x1 : evIt (evCall 1 (FF (k + 6) 55) (aCons (evCall 2 (FF (k + 6) 51) (aCons (evVar 1) (aCons (evK (.int 9)) (aNil)))) (aNil))) [.un, .val .sta, x2, .un, .un, .un, .un, .un, .un, .un, .un] μ = evIt (evCall 1 (FF (k + 6) 55) (aCons (evK (.int r)) (aNil))) [.un, .val .sta, x2, .un, .un, .un, .un, .un, .un, .un, .un] μ1 := by
      unfold evIt
      rw [e0]
    have cg : ∀ {f f' : Ro → Mu → Rs (List D)} {t : D → Ro → Option Ro} {fc : Ro → Mu → Rs Bool} {fe : Ro → Mu → Rs D} {vs : List Nat} {A B : Ro → Mu → Rs Fl} {ρ : Ro}, f ρ μ = f' ρ μ1 → sIf (notT (toT (evC kAll (aCons (evN (evLc f t fc fe vs)) aNil)))) A B ρ μ = sIf (notT (toT (evC kAll (aCons (evN (evLc f' t fc fe vs)) aNil)))) A B ρ μ1 := fun {f f' t fc fe vs A B ρ} e => by
      have y1 : evLc f t fc fe vs ρ μ = evLc f' t fc fe vs ρ μ1 := by unfold evLc; rw [e]
      have y2 : evN (evLc f t fc fe vs) ρ μ = evN (evLc f' t fc fe vs) ρ μ1 := by unfold evN; rw [y1]
      have y3 : aCons (evN (evLc f t fc fe vs)) aNil ρ μ = aCons (evN (evLc f' t fc fe vs)) aNil ρ μ1 := by unfold aCons; rw [y2]
      have y4 : evC kAll (aCons (evN (evLc f t fc fe vs)) aNil) ρ μ = evC kAll (aCons (evN (evLc f' t fc fe vs)) aNil) ρ μ1 := by unfold evC; rw [y3]
      have y5 : toT (evC kAll (aCons (evN (evLc f t fc fe vs)) aNil)) ρ μ = toT (evC kAll (aCons (evN (evLc f' t fc fe vs)) aNil)) ρ μ1 := by unfold toT; rw [y4]
      have y6 : notT (toT (evC kAll (aCons (evN (evLc f t fc fe vs)) aNil))) ρ μ = notT (toT (evC kAll (aCons (evN (evLc f' t fc fe vs)) aNil))) ρ μ1 := by unfold notT; rw [y5]
      unfold sIf
      rw [y6]
    exact cg x1
  rw [tail_eq, sCons]
  simp only [ei, Rs.bind_ok]
  rw [← e]
  unfold restT tailD sCons sRet ev2
  simp only [e1]
/-- the loop -/
theorem loop_eval (k : Nat) {μ : Mu} (hm : MuOk μ) (hc : μ.cnt + 2000 < 2 ^ 40) : ∃ x2 μ', loopT (FF (k + 6)) (ro0 11) μ = .ok .nx [.un, .val .sta, x2, .un, .un, .un, .un, .un, .un, .un, .un] μ' ∧ MuOk μ' ∧ μ'.cnt ≤ μ.cnt + 13 * 24 := by
  let I : Nat → Ro → Mu → Prop := fun n ρ μ' => (∃ x2, ρ = [.un, .val .sta, x2, .un, .un, .un, .un, .un, .un, .un, .un]) ∧ MuOk μ' ∧ μ'.cnt ≤ μ.cnt + 13 * n
  have er : evR1 (evK (.int 24)) (ro0 11) μ = .ok ((List.range 24).map fun i : Nat => D.int (i : Int)) (ro0 11) μ := by kernel_rfl
  obtain ⟨ρ', μ', e, ⟨x2, rfl⟩, m', c'⟩ := forR_inv (t := tNm 2) (fb := turnR (FF (k + 6))) (I := I) ((List.range 24).map fun i : Nat => D.int (i : Int)) 0 (ro0 11) μ ⟨⟨.un, rfl⟩, hm, by omega⟩ fun i d ρ μ1 hd ⟨⟨x2, hρ⟩, m1, c1⟩ => by
    subst hρ
    rw [List.getElem?_map] at hd
    obtain ⟨i', hi', hd⟩ := Option.map_eq_some_iff.mp hd
    obtain ⟨hl, hi'⟩ := List.getElem?_eq_some_iff.mp hi'
    rw [List.getElem_range] at hi'
    subst hi'
    subst hd
    rw [List.length_range] at hl
    obtain ⟨μ2, e2, m2, c2⟩ := turnF k (j := (i : Int)) (x2 := x2) (by omega) (by omega) m1 (by omega)
    exact ⟨_, _, μ2, rfl, by simpa [List.set_cons_succ, List.set_cons_zero] using e2, ⟨_, rfl⟩, m2, by omega⟩
  refine ⟨x2, μ', ?_, m', by simp at c'; omega⟩
  unfold loopT sFor
  rw [er]
  exact e
/-- the law's rest says True -/
theorem law_eval (k : Nat) {ns : List Int} (hl : ns.length ≤ 63) (hb : ∀ i ∈ ns, i.natAbs < 2 ^ 1048576) : ∃ ρ' μ', b63 (FF (k + 6)) (ro0 11) (mu0 ns) = .ok (.rt (.bl true)) ρ' μ' := by
  have hm : MuOk (mu0 ns) := ⟨hl, hb, Int.le_refl _, by show (0 : Int) < 2 ^ 1048576; exact Int.pow_pos (by decide), Int.le_refl _, by show (0 : Int) < 2 ^ 40; decide, by show (0 : Int) ≤ 29; decide, by show (29 : Int) < 2 ^ 31; decide⟩
  have c0 : (mu0 ns).cnt = 0 := rfl
  obtain ⟨x2, μ1, e1, m1, c1⟩ := loop_eval k hm (by rw [c0]; omega)
  obtain ⟨ρ', μ2, e2⟩ := tail_eval k (x2 := x2) m1 (by rw [c0] at c1; omega)
  refine ⟨ρ', μ2, ?_⟩
  rw [law_eq]
  simp only [sCons, e1, Rs.bind_ok]
  exact e2
end GL

set_option maxHeartbeats 4000000
namespace GL
open PySem PySem.Spec PyProof.Rows L2 GW
theorem objD_cases {d : D} (h : objD "a" d = true) : d = .non ∨ (∃ b, d = .bl b) ∨ (∃ i, d = .int i) ∨ (∃ s, d = .str s ∧ PyData.canLay0 (.str s) = true) ∨ (∃ i j, d = .tup [.int i, .int j]) ∨ (∃ e i e2, d = .lst e [.int i, .lst e2 [.int 1]]) ∨ ∃ e i, d = .dic e [(.inr "a", .int i)] := by
  unfold objD at h
  split at h
  · exact .inl rfl
  · exact .inr (.inl ⟨_, rfl⟩)
  · exact .inr (.inr (.inl ⟨_, rfl⟩))
  · exact .inr (.inr (.inr (.inl ⟨_, rfl, h⟩)))
  · exact .inr (.inr (.inr (.inr (.inl ⟨_, _, rfl⟩))))
  · cases eq_of_beq h
    exact .inr (.inr (.inr (.inr (.inr (.inl ⟨_, _, _, rfl⟩)))))
  · cases eq_of_beq h
    exact .inr (.inr (.inr (.inr (.inr (.inr ⟨_, _, rfl⟩)))))
  · cases h
def ifC : Stmt → Expr
  | .If c _ _ _ => c
  | _ => .Constant .none 0 ⟨0, 0, 0, 0⟩
def vT1 : Ro → Mu → Rs Bool := toT (evIsi "list" (evVar 1))
def vE1 : Ro → Mu → Rs D := boV .And (evIsi "list" (evVar 0)) (boV .And (ev2 (cmpK .Eq) (evC kLen (aCons (evVar 0) (aNil))) (evC kLen (aCons (evVar 1) (aNil)))) (ev2 (cmpK .Eq) (ev2 (fun _ x y => opIx x y) (evVar 0) (ev1 (fun _ x => kNeg x) (evK (.int 1)))) (evK (.str "more"))))
def vR1 (F : Fs) : Ro → Mu → Rs Fl := sRet (boV .And (evVar 2) (evCall 2 (F 53) (aCons (evVar 0) (aCons (evVar 1) (aNil)))))
def vT2 : Ro → Mu → Rs Bool := toT (evIsi "dict" (evVar 1))
def vE2 : Ro → Mu → Rs D := boV .And (evIsi "dict" (evVar 0)) (boV .And (ev2 (cmpK .In) (evK (.str "more")) (evVar 0)) (ev2 (cmpK .Eq) (evC kLen (aCons (evVar 0) (aNil))) (evC kLen (aCons (evVar 1) (aNil)))))
def vR2 (F : Fs) : Ro → Mu → Rs Fl := sRet (boV .And (evVar 2) (evCall 2 (F 53) (aCons (evVar 0) (aCons (evVar 1) (aNil)))))
def vRest (F : Fs) : Ro → Mu → Rs Fl := sCons (sRet (evCall 2 (F 53) (aCons (evVar 0) (aCons (evVar 1) (aNil)))))
  (sNil)
def vAll (F : Fs) : Ro → Mu → Rs Fl := sCons (sIf vT1 (fun _ _ => .no) (sNil)) (sCons (sIf vT2 (fun _ _ => .no) (sNil)) (vRest F))
section
variable {F : Fs} {μ : Mu} {e e2 : Nat} {i z : Int}
theorem v_T1 : vT1 [.val (.lst e [.int i, .lst e2 [.int 1]]), .val (.lst e [.int i, .lst e2 [.int 1]]), .un] μ = .ok true [.val (.lst e [.int i, .lst e2 [.int 1]]), .val (.lst e [.int i, .lst e2 [.int 1]]), .un] μ := by kernel_rfl
theorem v_E1 : vE1 [.val (.lst e [.int i, .lst e2 [.int 1], .str "more"]), .val (.lst e [.int i, .lst e2 [.int 1], .str "more"]), .un] μ = .ok (.bl true) [.val (.lst e [.int i, .lst e2 [.int 1], .str "more"]), .val (.lst e [.int i, .lst e2 [.int 1], .str "more"]), .un] μ := by kernel_rfl
theorem v_T1d : vT1 [.val (.dic e [(.inr "a", .int i)]), .val (.dic e [(.inr "a", .int i)]), .un] μ = .ok false [.val (.dic e [(.inr "a", .int i)]), .val (.dic e [(.inr "a", .int i)]), .un] μ := by kernel_rfl
theorem v_T2 : vT2 [.val (.dic e [(.inr "a", .int i)]), .val (.dic e [(.inr "a", .int i)]), .un] μ = .ok true [.val (.dic e [(.inr "a", .int i)]), .val (.dic e [(.inr "a", .int i)]), .un] μ := by kernel_rfl
theorem v_E2 : vE2 [.val (.dic e [(.inr "a", .int i), (.inr "more", .int z)]), .val (.dic e [(.inr "a", .int i), (.inr "more", .int z)]), .un] μ = .ok (.bl true) [.val (.dic e [(.inr "a", .int i), (.inr "more", .int z)]), .val (.dic e [(.inr "a", .int i), (.inr "more", .int z)]), .un] μ := by kernel_rfl
end
theorem FF_sm (j : Nat) (h : 2 ≤ j) (ds : List D) (μ : Mu) : FF (j + 1) 53 ds μ = (sameB (FF j 53) (rho0 5 ds) μ).fin := if_neg (by omega)
theorem al_ob {d : D} (h : d = .non ∨ (∃ b, d = .bl b) ∨ (∃ i, d = .int i) ∨ (∃ s, d = .str s ∧ PyData.canLay0 (.str s) = true) ∨ (∃ i j, d = .tup [.int i, .int j]) ∨ (∃ e i e2, d = .lst e [.int i, .lst e2 [.int 1]]) ∨ ∃ e i, d = .dic e [(.inr "a", .int i)]) : al 3 d d = true := by
  rcases h with rfl | ⟨b, rfl⟩ | ⟨i, rfl⟩ | ⟨s, rfl, _⟩ | ⟨i, j, rfl⟩ | ⟨e, i, e2, rfl⟩ | ⟨e, i, rfl⟩ <;> simp [al, als, alk]
theorem call_sm {k : Nat} (hk : 6 ≤ k) {μ : Mu} {d : D} {x : SV} (h : al 3 d d = true) : evCall 2 (FF k 53) (aCons (evVar 0) (aCons (evVar 1) aNil)) [.val d, .val d, x] μ = .ok (.bl true) [.val d, .val d, x] μ := by
  obtain ⟨j, rfl⟩ : ∃ j, k = j + 1 := ⟨k - 1, by omega⟩
  have hs := same_ok (S := fun j => FF j 53) (c := 2) (fun j hj ds μ => FF_sm j hj ds μ) μ 3 j _ _ (by omega) h
  have ho := al_own h
  exact call2 (S := FF (j + 1) 53) (μ := μ) (ρ := [.val d, .val d, x]) (fx := evVar 0) (fy := evVar 1) rfl rfl ho.1 ho.2 hs
theorem v_R1 {k : Nat} (hk : 6 ≤ k) {μ : Mu} {d : D} (h : al 3 d d = true) : vR1 (FF k) [.val d, .val d, .val (.bl true)] μ = .ok (.rt (.bl true)) [.val d, .val d, .val (.bl true)] μ := by
  simp [vR1, sRet, boV, evVar, rsv, truR, tru, call_sm hk h, datR, fz, isDat]
theorem v_R2 {k : Nat} (hk : 6 ≤ k) {μ : Mu} {d : D} (h : al 3 d d = true) : vR2 (FF k) [.val d, .val d, .val (.bl true)] μ = .ok (.rt (.bl true)) [.val d, .val d, .val (.bl true)] μ := by
  simp [vR2, sRet, boV, evVar, rsv, truR, tru, call_sm hk h, datR, fz, isDat]
theorem v_all {k : Nat} (hk : 6 ≤ k) {μ : Mu} {d : D} (h : d = .non ∨ (∃ b, d = .bl b) ∨ (∃ i, d = .int i) ∨ (∃ s, d = .str s ∧ PyData.canLay0 (.str s) = true) ∨ (∃ i j, d = .tup [.int i, .int j])) (ha : al 3 d d = true) : vAll (FF k) [.val d, .val d, .un] μ = .ok (.rt (.bl true)) [.val d, .val d, .un] μ := by
  have e : vAll (FF k) [.val d, .val d, .un] μ = vRest (FF k) [.val d, .val d, .un] μ := by
    rcases h with rfl | ⟨b, rfl⟩ | ⟨i, rfl⟩ | ⟨s, rfl, _⟩ | ⟨i, j, rfl⟩ <;> kernel_rfl
  rw [e]
  simp [vRest, sCons, sRet, call_sm hk ha, datR, fz, isDat]
section
variable {P : Program} {w : World} {base h : Heap} {g : Gd}
theorem very_ok {k : Nat} (hk : 6 ≤ k) {f : Addr} {fd : FuncData} (KX : g.K.In h) (G : h.Ns mainGlobals g.mg) (c : He.SaysX GH.fa GH.fn [] [] GH.ex w h g.K) (D : FunD g.K (GH.mkD "_law_very" 61).name (GH.mkD "_law_very" 61).qual (GH.mkD "_law_very" 61).params (GH.mkD "_law_very" 61).body (GH.mkD "_law_very" 61).scope [] [] f fd) :
    FnOk P w g.K g.mg base (L2.CX P w) (k + 1) f fd ["found", "due"] (spV g "a") := by
  have S0 : FnScope ["found", "due", "same"] ["found", "due"] (defScope (GH.top 61)) := ⟨rfl, rfl, rfl, by decide +kernel, rfl, by decide +kernel, by decide +kernel⟩
  refine D.ok S0 (fun vs H Q E ⟨av, er, μ, v, d, e, _⟩ => by rw [e]; rfl) fun cdv Ar outer s H vs Q E hr ⟨av, er, μ, v, d, e, P0, r, ho, hu, q⟩ => ?_
  subst e
  have C : Cxt g GH.bls k ["found", "due", "same"] (defScope (GH.top 61)) (cxOf (L2.CX P w) P w g.K g.mg base ["found", "due", "same"] (GH.mkD "_law_very" 61).qual (GH.mkD "_law_very" 61).scope f cdv Ar outer s H E) := ⟨rfl, rfl, rfl, rfl, rfl, hr, S0.nd, bl_free KX G c⟩
  have S : CxS (cxOf (L2.CX P w) P w g.K g.mg base ["found", "due", "same"] (GH.mkD "_law_very" 61).qual (GH.mkD "_law_very" 61).scope f cdv Ar outer s H E) := ⟨fun _ => rfl, passes_of rfl⟩
  have A := (calls_ok (P := P) (w := w) (base := base) KX G c k).to (X := (cxOf (L2.CX P w) P w g.K g.mg base ["found", "due", "same"] (GH.mkD "_law_very" 61).qual (GH.mkD "_law_very" 61).scope f cdv Ar outer s H E)) rfl rfl rfl rfl rfl
  refine ⟨_, pssR, ?_⟩
  have tk : Takes (cxOf (L2.CX P w) P w g.K g.mg base ["found", "due", "same"] (GH.mkD "_law_very" 61).qual (GH.mkD "_law_very" 61).scope f cdv Ar outer s H E) (fun cls d _ H => E cls d H) := takes_of rfl rfl rfl rfl
  have O1 : OkT g (cxOf (L2.CX P w) P w g.K g.mg base ["found", "due", "same"] (GH.mkD "_law_very" 61).qual (GH.mkD "_law_very" 61).scope f cdv Ar outer s H E) (ifC ((defBody (GH.top 61)).getD 0 (.Pass ⟨0, 0, 0, 0⟩))) vT1 := OkT.val C.hK (OkE.isT "list" C (by kernel_rfl) (by kernel_rfl) (by kernel_rfl) (by decide +kernel) (by decide +kernel) (by decide +kernel) (OkE.nm C (by kernel_rfl))) (fun _ => by rfl)
  have O2 : OkT g (cxOf (L2.CX P w) P w g.K g.mg base ["found", "due", "same"] (GH.mkD "_law_very" 61).qual (GH.mkD "_law_very" 61).scope f cdv Ar outer s H E) (ifC ((defBody (GH.top 61)).getD 1 (.Pass ⟨0, 0, 0, 0⟩))) vT2 := OkT.val C.hK (OkE.isT "dict" C (by kernel_rfl) (by kernel_rfl) (by kernel_rfl) (by decide +kernel) (by decide +kernel) (by decide +kernel) (OkE.nm C (by kernel_rfl))) (fun _ => by rfl)
  have hd := objD_cases ho
  have rest : ∀ (ho : v = v), (d = .non ∨ (∃ b, d = .bl b) ∨ (∃ i, d = .int i) ∨ (∃ s, d = .str s ∧ PyData.canLay0 (.str s) = true) ∨ (∃ i j, d = .tup [.int i, .int j])) → RunSs (cxOf (L2.CX P w) P w g.K g.mg base ["found", "due", "same"] (GH.mkD "_law_very" 61).qual (GH.mkD "_law_very" 61).scope f cdv Ar outer s H E) (defBody (GH.top 61)) { nx := fun _ H' => Q .non H', rt := Q } (L2.start ["found", "due", "same"] [v, v]) H := fun _ hd => by
    have E0 : RepEnv (g.at av) er μ.ec H [.val d, .val d, .un] [some v, some v, none] := env_two r (fun d' z => by cases z) rfl
    refine (OkSs.cons (OkS.if O1 OkSs.no OkSs.nil) (OkSs.cons (OkS.if O2 OkSs.no OkSs.nil) (show OkSs g (cxOf (L2.CX P w) P w g.K g.mg base ["found", "due", "same"] (GH.mkD "_law_very" 61).qual (GH.mkD "_law_very" 61).scope f cdv Ar outer s H E) _ (vRest (FF k)) from OkSs.cons (OkS.ret (OkE.fun C A.f53 (by kernel_rfl) (OkA.cons (OkE.nm C (by kernel_rfl)) (OkA.cons (OkE.nm C (by kernel_rfl)) (OkA.nil)))))
  (OkSs.nil)))) av _ _ er H _ μ _ tk E0 P0 ?_
    show DenS (g.at av) _ _ _ _ _ _ (vAll (FF k) [.val d, .val d, .un] μ) _
    rw [v_all (by omega) hd (al_ob (by rcases hd with h | h | h | h | h; exact .inl h; exact .inr (.inl h); exact .inr (.inr (.inl h)); exact .inr (.inr (.inr (.inl h))); exact .inr (.inr (.inr (.inr (.inl h))))))]
    intro v4 σ4 H4 er4 n4 rv4
    cases rv4
    exact q H4 er4 (n4.x.mono fun x z => (noOw3 rfl z).elim) n4.hp
  rcases hd with hd | hd | hd | hd | hd | hd | hd
  · exact rest rfl (.inl hd)
  · exact rest rfl (.inr (.inl hd))
  · exact rest rfl (.inr (.inr (.inl hd)))
  · exact rest rfl (.inr (.inr (.inr (.inl hd))))
  · exact rest rfl (.inr (.inr (.inr (.inr hd))))
  · have ha := al_ob (.inr (.inr (.inr (.inr (.inr (.inl hd))))))
    obtain ⟨e, i, e2, rfl⟩ := hd
    exact very_lst (xd := "due") (s := "more") (xs := "same") (f1 := vT1) (f2 := vE1) (f4 := vR1 (FF k)) C (by kernel_rfl) O1 S (by kernel_rfl) (OkE.bo C.hK (OkE.isT "list" C (by kernel_rfl) (by kernel_rfl) (by kernel_rfl) (by decide +kernel) (by decide +kernel) (by decide +kernel) (OkE.nm C (by kernel_rfl))) (OkE.bo C.hK (OkE.cmp C (OkE.len C (by kernel_rfl) (OkA.cons (OkE.nm C (by kernel_rfl)) (OkA.nil))) (OkE.len C (by kernel_rfl) (OkA.cons (OkE.nm C (by kernel_rfl)) (OkA.nil))) (by rfl)) (OkE.bo1 (OkE.cmp C (OkE.ix C (OkE.nm C (by kernel_rfl)) (OkE.neg (OkE.int)) (by intro o i; rfl)) (OkE.str) (by rfl))))) (OkS.ret (OkE.bo C.hK (OkE.nm C (by kernel_rfl)) (OkE.bo1 (OkE.fun C A.f53 (by kernel_rfl) (OkA.cons (OkE.nm C (by kernel_rfl)) (OkA.cons (OkE.nm C (by kernel_rfl)) (OkA.nil))))))) tk P0 r v_T1 v_E1 (v_R1 (by omega) ha) q
  · have ha := al_ob (.inr (.inr (.inr (.inr (.inr (.inr hd))))))
    obtain ⟨e, i, rfl⟩ := hd
    have r0 := r
    cases r with
    | @dic a _ vs _ hq he hf nd rr =>
      have hH : H a = some (.dK [(.inr "a", .int i)]) := by
        cases rr with
        | cons ra rr =>
          cases rr
          cases ra
          rcases hq with hq | ⟨ob, hq⟩
          · exact hq
          · exact absurd hq (hu _ _ rfl a _ _ rfl)
      exact very_dic (xd := "due") (s := "more") (xs := "same") (ka := "a") (f0 := vT1) (f1 := vT2) (f2 := vE2) (f4 := vR2 (FF k)) C (by kernel_rfl) (by decide +kernel) O1 O2 S (by kernel_rfl) (OkE.bo C.hK (OkE.isT "dict" C (by kernel_rfl) (by kernel_rfl) (by kernel_rfl) (by decide +kernel) (by decide +kernel) (by decide +kernel) (OkE.nm C (by kernel_rfl))) (OkE.bo C.hK (OkE.cmp C (OkE.str) (OkE.nm C (by kernel_rfl)) (by rfl)) (OkE.bo1 (OkE.cmp C (OkE.len C (by kernel_rfl) (OkA.cons (OkE.nm C (by kernel_rfl)) (OkA.nil))) (OkE.len C (by kernel_rfl) (OkA.cons (OkE.nm C (by kernel_rfl)) (OkA.nil))) (by rfl))))) (OkS.ret (OkE.bo C.hK (OkE.nm C (by kernel_rfl)) (OkE.bo1 (OkE.fun C A.f53 (by kernel_rfl) (OkA.cons (OkE.nm C (by kernel_rfl)) (OkA.cons (OkE.nm C (by kernel_rfl)) (OkA.nil))))))) tk P0 r0 hH v_T1d v_T2 v_E2 (v_R2 (by omega) ha) q

end
end GL

set_option maxHeartbeats 4000000
namespace GL
open PySem PySem.Spec PyProof.Rows L2 GW
section
variable {P : Program} {w : World} {base h : Heap} {g : Gd}
theorem fun_up {X : Cx} {n np : Nat} {x : Str} {F : List D → Mu → Rf} (A : Fun g X n x np F) : Fun g X (n + 1) x np F := let ⟨f, fd, ps, h1, h2⟩ := A.ex; ⟨f, fd, ps, h1.mono (Nat.le_succ _), h2⟩
theorem fnP_up {k : Nat} {f : Addr} {fd : FuncData} {ps : List Str} {K : PySem.W.Frag} {mg : Str → Option Value} {sp : SpP} (F : FnP P w K mg base (L2.CX P w) k f fd ps sp) : FnP P w K mg base (L2.CX P w) (k + 1) f fd ps sp := ⟨F.len, fun A outer s H args us vs Q E p hr => F.run A outer s H args us vs Q E p (hr.mono (Nat.le_succ _))⟩
theorem calls_up {X : Cx} {n : Nat} {F : Fs} (A : Calls g X n F) : Calls g X (n + 1) F := ⟨fun_up A.f50, fun_up A.f51, fun_up A.f52, fun_up A.f53, fun_up A.f54, fun_up A.f55, fun_up A.f56, fun_up A.f57, fun_up A.f58, fun_up A.f59, fun_up A.f60, fun_up A.f61, fun_up A.f62⟩
theorem hot_54 {f : Addr} {fd : FuncData} (KX : g.K.In h) (G : h.Ns mainGlobals g.mg) (c : He.SaysX GH.fa GH.fn [] [] GH.ex w h g.K) (D : FunD g.K (GH.mkD "_law_kinds_of" 54).name (GH.mkD "_law_kinds_of" 54).qual (GH.mkD "_law_kinds_of" 54).params (GH.mkD "_law_kinds_of" 54).body (GH.mkD "_law_kinds_of" 54).scope [] [] f fd) :
    FnP P w g.K g.mg base (L2.CX P w) (0 + 1) f fd ["e"] (spKi g.mg "BadAsks" [4]) := by
  have S0 : FnScope N54 ["e"] (defScope (GH.top 54)) := ⟨rfl, rfl, rfl, by decide +kernel, rfl, by decide +kernel, by decide +kernel⟩
  refine fn_byP D S0 (fun p vs H Q E ⟨_, _, _, _, e, _⟩ => by rw [e]; rfl) fun X p vs H Q E hP hw hb hK hm hN hsc hfn hgl hp hot hr hx ⟨C, dx, fs, ep, e, hd, hmc, q⟩ => ?_
  subst e
  have Z := errs_of KX G c hK hm
  have oe : (outB 0 ([false, false, false, false] ++ [true, false, false, false] ++ [false, false, false, false]) 12).map V.int = ([4] : List Int).map V.int := by kernel_rfl
  exact kinds_body (N := N54) (bl := GH.bls) (sc := defScope (GH.top 54)) (xe := "e") (xt := "told") (xk := "k") (bs1 := [false, false, false, false]) (bs2 := [true, false, false, false]) (bs3 := [false, false, false, false]) (off := 0)
    ⟨p, hot, hp⟩ hp ep (by rw [hK]; exact Z.k (y := "WorldError") "BadAsks" true (by kernel_rfl) C hmc) hN hsc S0.nd (by rw [hm]; exact bl_free KX G c) hgl hfn (by kernel_rfl) (by kernel_rfl) (by kernel_rfl) (by kernel_rfl) (by kernel_rfl) (by kernel_rfl) (by kernel_rfl) (by kernel_rfl) (by kernel_rfl)
    (.t (T := GH.T) (xc := "BadAsks") hK hm hgl Z.t (by kernel_rfl) hmc Z.m_BadPrices (by kernel_rfl) (.t (T := GH.T) (xc := "BadAsks") hK hm hgl Z.t (by kernel_rfl) hmc Z.m_BadWishes (by kernel_rfl) (.t (T := GH.T) (xc := "BadAsks") hK hm hgl Z.t (by kernel_rfl) hmc Z.m_BadLevels (by kernel_rfl) (.t (T := GH.T) (xc := "BadAsks") hK hm hgl Z.t (by kernel_rfl) hmc Z.m_NotStraight (by kernel_rfl) .nil))))
    (.t (T := GH.T) (xc := "BadAsks") hK hm hgl Z.t (by kernel_rfl) hmc Z.m_BadAsks (by kernel_rfl) (.t (T := GH.T) (xc := "BadAsks") hK hm hgl Z.t (by kernel_rfl) hmc Z.m_NotApart (by kernel_rfl) (.t (T := GH.T) (xc := "BadAsks") hK hm hgl Z.t (by kernel_rfl) hmc Z.m_BadStrategy (by kernel_rfl) (.t (T := GH.T) (xc := "BadAsks") hK hm hgl Z.t (by kernel_rfl) hmc Z.m_BadEdit (by kernel_rfl) .nil))))
    (.t (T := GH.T) (xc := "BadAsks") hK hm hgl Z.t (by kernel_rfl) hmc Z.m_BadDesk (by kernel_rfl) (.t (T := GH.T) (xc := "BadAsks") hK hm hgl Z.t (by kernel_rfl) hmc Z.m_BadDeskText (by kernel_rfl) (.t (T := GH.T) (xc := "BadAsks") hK hm hgl Z.t (by kernel_rfl) hmc Z.m_NothingToUndo (by kernel_rfl) (.t (T := GH.T) (xc := "BadAsks") hK hm hgl Z.t (by kernel_rfl) hmc Z.m_NothingToRedo (by kernel_rfl) .nil)))) rfl rfl rfl (fun Y i σ H Q h1 h2 h3 h4 => el_nm (by kernel_rfl) Y i σ H Q h1 h2 h3 h4) hd (fun a H' g1 g2 g3 => q a H' g1 g2 (by rw [g3, oe]))
theorem hot_top {X : Cx} (KX : g.K.In h) (G : h.Ns mainGlobals g.mg) (c : He.SaysX GH.fa GH.fn [] [] GH.ex w h g.K) (h1 : X.prog = P) (h2 : X.w = w) (h4 : X.K = g.K) (h5 : X.mg = g.mg) : FunP X 2 "_law_kinds_of" "BadAsks" [4] := by
  obtain ⟨fd54, D54⟩ := c.t.d.def_ 4 (d := GH.mkD "_law_kinds_of" 54) rfl
  have b54 : L2.Binds g.K fd54 (["e"] : List Str) [] := D54.bindsN (ps := (["e"] : List Str)) fun _ _ _ _ _ _ us hl => match us, hl with | [_], _ => rfl
  subst h1 h2
  refine ⟨_, fd54, ["e"], ?_, by rw [h5]; exact He.glo_ok KX G (c.t.d.fact 4 (f := .glo "_law_kinds_of") rfl), by rw [h4]; exact D54.kp, by rw [h4]; exact b54⟩
  rw [h4, h5]
  exact fnP_up (hot_54 KX G c D54)
theorem caught_ok {k : Nat} (hk : 2 ≤ k) {f : Addr} {fd : FuncData} (KX : g.K.In h) (G : h.Ns mainGlobals g.mg) (c : He.SaysX GH.fa GH.fn [] [] GH.ex w h g.K) (D : FunD g.K (GH.mkD "_law_caught" 62).name (GH.mkD "_law_caught" 62).qual (GH.mkD "_law_caught" 62).params (GH.mkD "_law_caught" 62).body (GH.mkD "_law_caught" 62).scope [] [] f fd) :
    FnOk P w g.K g.mg base (L2.CX P w) (k + 1) f fd ["x"] (spF g 1 (cF (FF k))) :=
  fn_byT (N := N62) (bl := GH.bls) (fb := b62 (FF k)) D ⟨rfl, rfl, rfl, by decide +kernel, rfl, by decide +kernel, by decide +kernel⟩ (bl_free KX G c) fun X h1 h2 h3 C S T =>
    let ⟨_, hw⟩ := (errs_of KX G c C.hK C.hm).m_WorldError
    ok62 C S hk ((calls_ok KX G c k).to h1 h2 h3 C.hK C.hm) (errs_of KX G c C.hK C.hm) T (hot_top KX G c h1 h2 C.hK C.hm) hw
/-- the law keeps its promise -/
def spL (K : PySem.W.Frag) : Sp := fun vs H Q _ => ∃ (a : Addr) (ns : List Int), vs = [.ref a] ∧ ns.length ≤ 63 ∧ (∀ i ∈ ns, i.natAbs < 2 ^ 1048576) ∧ SqL K H a (ns.map V.int) ∧ ∀ H', Q (.bl true) H'
theorem law_ok {K : PySem.W.Frag} {mg : Str → Option Value} {f : Addr} {fd : FuncData} (KX : K.In h) (G : h.Ns mainGlobals mg) (c : He.SaysX GH.fa GH.fn [] [] GH.ex w h K) (D : FunD K (GH.mkD "law" 63).name (GH.mkD "law" 63).qual (GH.mkD "law" 63).params (GH.mkD "law" 63).body (GH.mkD "law" 63).scope [] [] f fd) :
    FnOk P w K mg base (L2.CX P w) 14 f fd ["script"] (spL K) := by
  have S0 : FnScope N63 ["script"] (defScope (GH.top 63)) := ⟨rfl, rfl, rfl, by decide +kernel, rfl, by decide +kernel, by decide +kernel⟩
  refine D.ok S0 (fun vs H Q E ⟨a, ns, e, _⟩ => by rw [e]; rfl) fun cdv A outer s H vs Q E hr ⟨a, ns, e, hl, hb, hs, q⟩ => ?_
  subst e
  let g0 : Gd := { K := K, mg := mg, isFn := fun _ => false, sa := 0, sb := 0, T := [], lam := fun _ => none, av := fun _ => False }
  have C : ∀ g : Gd, g.K = K → g.mg = mg → Cxt g GH.bls 13 N63 (defScope (GH.top 63)) (cxOf (L2.CX P w) P w K mg base N63 (GH.mkD "law" 63).qual (GH.mkD "law" 63).scope f cdv A outer s H E) := fun g h1 h2 => ⟨h1.symm, h2.symm, rfl, rfl, rfl, hr, S0.nd, by rw [h2]; exact bl_free (g := g0) KX G c⟩
  have S : CxS (cxOf (L2.CX P w) P w K mg base N63 (GH.mkD "law" 63).qual (GH.mkD "law" 63).scope f cdv A outer s H E) := ⟨fun _ => rfl, passes_of rfl⟩
  have tk : Takes (cxOf (L2.CX P w) P w K mg base N63 (GH.mkD "law" 63).qual (GH.mkD "law" 63).scope f cdv A outer s H E) (fun cls d _ H => E cls d H) := takes_of rfl rfl rfl rfl
  obtain ⟨fds, Ds⟩ := c.t.d.def_ 0 (d := GH.mkD "_law_start" 50) rfl
  have hms := He.glo_ok KX G (c.t.d.fact 0 (f := .glo "_law_start") rfl)
  have hbs : L2.Binds K fds (["script"] : List Str) [] := Ds.bindsN (ps := (["script"] : List Str)) fun _ _ _ _ _ _ us hl => match us, hl with | [_], _ => rfl
  have Fs : FnOk P w K mg base (L2.CX P w) 1 (He.fAd K (GH.mkD "_law_start" 50).at_) fds ["script"] (spS K) := start_fn (sx := "script") Ds rfl ⟨rfl, rfl, rfl, by decide +kernel, rfl, by decide +kernel, by decide +kernel⟩ (bl_free (g := g0) KX G c _ (by decide +kernel)) (by kernel_rfl) (by kernel_rfl)
  obtain ⟨fdv, Dv⟩ := c.t.d.def_ 11 (d := GH.mkD "_law_very" 61) rfl
  have hmv := He.glo_ok KX G (c.t.d.fact 11 (f := .glo "_law_very") rfl)
  have hbv : L2.Binds K fdv (["found", "due"] : List Str) [] := Dv.bindsN (ps := (["found", "due"] : List Str)) fun _ _ _ _ _ _ us hl => match us, hl with | [_, _], _ => rfl
  obtain ⟨fdc, Dc⟩ := c.t.d.def_ 12 (d := GH.mkD "_law_caught" 62) rfl
  have hmc := He.glo_ok KX G (c.t.d.fact 12 (f := .glo "_law_caught") rfl)
  have hbc : L2.Binds K fdc (["x"] : List Str) [] := Dc.bindsN (ps := (["x"] : List Str)) fun _ _ _ _ _ _ us hl => match us, hl with | [_], _ => rfl
  refine ⟨_, pssR, ?_⟩
  refine law_main (x := "_law_start") (sx := "state") (zx := "script") C S tk Fs (by omega) hms Ds.kp hbs (by kernel_rfl) (by kernel_rfl) (by kernel_rfl) (fun g h1 h2 => ?_) (law_eval 6 hl hb) hl hb hs q
  have KX' : g.K.In h := by rw [h1]; exact KX
  have G' : h.Ns mainGlobals g.mg := by rw [h2]; exact G
  have c' : He.SaysX GH.fa GH.fn [] [] GH.ex w h g.K := by rw [h1]; exact c
  have hA := calls_up ((calls_ok (P := P) (w := w) (base := base) KX' G' c' 12).to (X := (cxOf (L2.CX P w) P w K mg base N63 (GH.mkD "law" 63).qual (GH.mkD "law" 63).scope f cdv A outer s H E)) rfl rfl rfl h1.symm h2.symm)
  have hZ := errs_of KX' G' c' (X := (cxOf (L2.CX P w) P w K mg base N63 (GH.mkD "law" 63).qual (GH.mkD "law" 63).scope f cdv A outer s H E)) h1.symm h2.symm
  refine ok63 (C g h1 h2) S (by omega) hA hZ ⟨He.fAd K (GH.mkD "_law_very" 61).at_, fdv, ["found", "due"], ?_, hmv, Dv.kp, hbv⟩ ⟨He.fAd K (GH.mkD "_law_caught" 62).at_, fdc, ["x"], ?_, hmc, Dc.kp, hbc⟩
  · have := very_ok (P := P) (base := base) (k := 12) (by omega) KX' G' c' (f := He.fAd K (GH.mkD "_law_very" 61).at_) (fd := fdv) (by rw [h1]; exact Dv)
    rw [h1, h2] at this
    exact this
  · have := caught_ok (P := P) (base := base) (k := 12) (by omega) KX' G' c' (f := He.fAd K (GH.mkD "_law_caught" 62).at_) (fd := fdc) (by rw [h1]; exact Dc)
    rw [h1, h2] at this
    exact this
end
end GL

set_option maxHeartbeats 0
open PySem PySem.W PySem.Calls PyProof.Rows
theorem PySem.Challenge.cw_grownworlds_k95_errors_of_what_is_asked_holds : PySem.Challenge.rw_grownworlds_k95_errors_of_what_is_asked.Holds := by
  w_on; o_law
  refine HandSHeadRun.head_any (r := OpenLaw.row PySem.Challenge.rw_grownworlds_k95_errors_of_what_is_asked) (q := view (OpenLaw.row PySem.Challenge.rw_grownworlds_k95_errors_of_what_is_asked).prog [63]) (H := GH.hk) (ob := GH.ob) (M := 40000) (loose := GH.names) (d := HandSHeadRun.topDef (OpenLaw.row PySem.Challenge.rw_grownworlds_k95_errors_of_what_is_asked).prog 63) (kwd := []) GH.ob_eq
    (by kernel_rfl) (fun s => by kernel_rfl) GH.run (by kernel_rfl) (by kernel_rfl) (by kernel_rfl) (by rfl) (by first | assumption | decide +kernel) (by decide +kernel) ⟨rfl, rfl, rfl, rfl, rfl, by decide +kernel⟩ ?hw ?hc
  case hw => w_witness2
  case hc =>
    refine LamX.walk_ofTsE (l := PySem.Challenge.rw_grownworlds_k95_errors_of_what_is_asked) (n := 63) (k := 14) (x := "script") (CX := fun w => L2.CX (PySem.Challenge.rw_grownworlds_k95_errors_of_what_is_asked).prog w) rfl (by decide) (by kernel_rfl) ⟨rfl, by decide, by decide⟩ ?F (fun w H s e s' z => by
      obtain ⟨_, _, _, _, _, _, _, _, _, _, _, _, q⟩ := z
      exact q)
    intro w mg fa h Y G hmg0
    obtain ⟨K, KX, c⟩ := Y
    have hmg : mg ("law" : PySem.Str) = some (.ref fa) := by
      have e : (HandSHeadRun.topDef (OpenLaw.row PySem.Challenge.rw_grownworlds_k95_errors_of_what_is_asked).prog 63).name = ("law" : PySem.Str) := by kernel_rfl
      rw [← e]
      exact hmg0
    obtain ⟨fd, D⟩ := c.t.d.def_ 13 (d := GH.mkD "law" 63) rfl
    have e := hmg.symm.trans (He.glo_ok KX G (c.t.d.fact 13 (f := .glo "law") rfl))
    cases e
    have b := L2.FunD.bindsA (ps := (["script"] : List PySem.Str)) D fun _ _ _ _ _ _ us hl => match us, hl with | [_], _ => rfl
    exact ⟨K, KX, fd, [], GL.spL K, (fun p hp => nomatch hp), (fun p hp => nomatch hp), (fun p hp => nomatch hp), (fun s v => b s [v] rfl), (fun H a ns hl hb _ hS => ⟨a, ns, rfl, hl, (fun i hi => PySem.intBits_le_iff.mp (hb i hi)), hS, fun _ => rfl⟩), fun base _ _ _ => GL.law_ok KX G c D⟩

