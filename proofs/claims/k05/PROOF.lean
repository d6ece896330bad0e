import PyProof.Rows.All
import Wide.All
import OpenK.AllK
import Wide.FinOn
import KE.KStateDown
import Lean
import HandS.ForMost
import HandS.ForExc
import HandS.Flow
import HandS.Wide
import HandS.TupAny
import HandS.Zip
import HandS.IsInst
import HandS.Steps
import HandS.More
import HandS.Conv
import HandS.Deep
import HandS.Walk
import HandS.Defaults
import HandS.Head0
import HandS.Head1
import HandS.Head2
import HandS.HeadEnd
import HandS.HeadHook1
import HandS.HeadHook2
import HandS.Exc
import HandS.ExcOwn
import HandS.TryOnly
import HandS.Style
import HandS.Lambda
import HandS.HotCalls
import HandS.ExcIs
import HandS.ExcField
import HandS.HeadHook3
import HandS.HeadHook4
import HandS.EndTab
import HandS.HeadWalk
import HandS.ExcInit
import HandS.WordsExc
import HandS.Codes
import HandS.Ends
import HandS.Words
import PySem.Challenge.RW_runsorts_k05_merges
set_option Elab.async false
set_option linter.all false
set_option maxRecDepth 100000
set_option maxHeartbeats 4000000
/-! the head: facts by names, told over the objects that the module's names reach -/
namespace Hx
open PySem PySem.Spec PyProof.Rows L2
def obj1 (g : Addr → Option Obj) (v : Value) : List Addr := match v with
  | .ref b => (match g b with
    | some ⟨_, _, .func fd, _⟩ => b :: (He.refV fd.code ++ He.refV fd.defaults)
    | _ => [b])
  | _ => []
def obj2 (g : Addr → Option Obj) (v : Value) : List Addr := match v with
  | .ref b => (match g b with
    | some ⟨_, _, .func fd, _⟩ => b :: (He.refV fd.code ++ He.refV fd.defaults)
    | some ⟨_, _, .cls cd, _⟩ => b :: cd.ns :: (match g cd.ns with
      | some ⟨_, _, .dict es _, _⟩ => es.toList.flatMap fun e => obj1 g e.val
      | _ => [])
    | _ => [b])
  | _ => []
def asX (g : Addr → Option Obj) : List Addr := cStatics :: mainGlobals :: (match g mainGlobals with
  | some ⟨_, _, .dict es _, _⟩ => es.toList.flatMap fun e => obj2 g e.val
  | _ => [])
abbrev Fs : Type := List (PySem.W.Frag → Bool)
def obsM (fs : Fs) (fn : List He.DefD) (K : PySem.W.Frag) : He.AlD := ((fs.all fun f => f K) && fn.all fun d => d.ok K, fn.map fun d => He.fnW K d.at_)
def SaysM (fs : Fs) (fn : List He.DefD) (K : PySem.W.Frag) : Prop := obsM fs fn K = He.valD fn
def obsMG (fs : Fs) (fn : List He.DefD) (g : Addr → Option Obj) : He.AlD := obsM fs fn (He.frG g (asX g))
def hookM (fs : Fs) (fn : List He.DefD) : PySem.W.Hook where
  α := He.AlD
  obs := fun s => obsMG fs fn s.heap.get?
  val := fun _ => He.valD fn
  says := fun _ h => ∃ K : PySem.W.Frag, K.In h ∧ SaysM fs fn K
  of := fun _ _ e => ⟨_, He.frG_in, e⟩
  keeps := fun _ _ _ ⟨K, hK, c⟩ k => ⟨K, PySem.W.Frag.In.keeps hK k, c⟩
theorem obsMG_eq {fs : Fs} {fn : List He.DefD} {g : Addr → Option Obj} {s : Shared} (h : ∀ a, g a = s.heap.get? a) : obsMG fs fn g = (hookM fs fn).obs s := by
  have e : g = s.heap.get? := funext h
  rw [e] <;> rfl
section
variable {fs : Fs} {fn : List He.DefD} {K : PySem.W.Frag}
theorem SaysM.fact (c : SaysM fs fn K) (i : Nat) {f : PySem.W.Frag → Bool} (h : fs[i]? = some f := by rfl) : f K = true := by
  have c1 := (He.ba (show ((fs.all fun f => f K) && fn.all fun d => d.ok K) = true from congrArg (fun z : He.AlD => z.1) c)).1
  exact List.all_eq_true.mp c1 f (List.mem_of_getElem? h)
theorem SaysM.def_ (c : SaysM fs fn K) (i : Nat) {d : He.DefD} (h : fn[i]? = some d := by rfl) : ∃ fd, FunD K d.name d.qual d.params d.body d.scope (d.dvs K) (d.kws K) (He.fAd K d.at_) fd := by
  have c2 := (He.ba (show ((fs.all fun f => f K) && fn.all fun d => d.ok K) = true from congrArg (fun z : He.AlD => z.1) c)).2
  have e : fn.map (fun d => He.fnW K d.at_) = fn.map He.DefD.val := congrArg (fun z : He.AlD => z.2) c
  have e2 : (fn.map fun d => He.fnW K d.at_)[i]? = (fn.map He.DefD.val)[i]? := by rw [e]
  rw [List.getElem?_map, List.getElem?_map, h] at e2
  exact He.DefD.funD (Option.some.inj e2) (List.all_eq_true.mp c2 d (List.mem_of_getElem? h))
end
end Hx

/-! the same, the tables of the defs that make lambdas told beside -/
namespace Hx
open PySem PySem.Spec PyProof.Rows L2
structure SaysMT (fs : Fs) (fn : List He.DefD) (tf : List He.Defn) (h : Heap) (K : PySem.W.Frag) : Prop where
  m : SaysM fs fn K
  hd : ∀ p ∈ tf, PySem.W.codeHdIn K (He.cT K p).1 (He.cT K p).2 = true
  out : ∀ p ∈ tf, K.lookup (He.cT K p).2 = none
  empty : ∀ p ∈ tf, h.get? (He.cT K p).2 = some { cls := .none, data := .fields #[] }
def obsMT (fs : Fs) (fn : List He.DefD) (tf : List He.Defn) (g : Addr → Option Obj) : He.AlD × Bool := (obsM fs fn (He.frT g (asX g)), He.tabsB g tf (He.frT g (asX g)))
theorem saysMT_of {fs : Fs} {fn : List He.DefD} {tf : List He.Defn} {h : Heap} (e : obsMT fs fn tf h.get? = (He.valD fn, true)) : SaysMT fs fn tf h (He.frT h.get? (asX h.get?)) := by
  have e1 : obsM fs fn (He.frT h.get? (asX h.get?)) = He.valD fn := congrArg (fun z : He.AlD × Bool => z.1) e
  have e2 : He.tabsB h.get? tf (He.frT h.get? (asX h.get?)) = true := congrArg (fun z : He.AlD × Bool => z.2) e
  have at_ : ∀ p ∈ tf, PySem.W.codeHdIn (He.frT h.get? (asX h.get?)) (He.cT (He.frT h.get? (asX h.get?)) p).1 (He.cT (He.frT h.get? (asX h.get?)) p).2 = true ∧ ∃ o, h.get? (He.cT (He.frT h.get? (asX h.get?)) p).2 = some o ∧ He.emptyTab o = true := fun p hp => by
    obtain ⟨g1, g2⟩ := He.ba (List.all_eq_true.mp e2 p hp)
    refine ⟨g1, ?_⟩
    revert g2
    cases h.get? (He.cT (He.frT h.get? (asX h.get?)) p).2 with
    | none => exact fun z => (nomatch z)
    | some o => exact fun z => ⟨o, rfl, z⟩
  exact ⟨e1, fun p hp => (at_ p hp).1, fun p hp => (at_ p hp).2.elim fun o z => He.frT_none z.1 z.2, fun p hp => (at_ p hp).2.elim fun o z => by rw [z.1, He.emptyTab_eq z.2]⟩
def hookMT (fs : Fs) (fn : List He.DefD) (tf : List He.Defn) : PySem.W.Hook where
  α := He.AlD × Bool
  obs := fun s => obsMT fs fn tf s.heap.get?
  val := fun _ => (He.valD fn, true)
  says := fun _ h => ∃ K : PySem.W.Frag, K.In h ∧ SaysMT fs fn tf h K
  of := fun _ _ e => ⟨_, He.frT_in, saysMT_of e⟩
  keeps := fun _ _ _ ⟨K, hK, c⟩ k => ⟨K, PySem.W.Frag.In.keeps hK k, ⟨c.m, c.hd, c.out, fun p hp => k _ _ (c.empty p hp)⟩⟩
theorem obsMT_eq {fs : Fs} {fn : List He.DefD} {tf : List He.Defn} {g : Addr → Option Obj} {s : Shared} (h : ∀ a, g a = s.heap.get? a) : obsMT fs fn tf g = (hookMT fs fn tf).obs s := by
  have e : g = s.heap.get? := funext h
  rw [e] <;> rfl
end Hx

namespace Rs
open PySem PySem.Spec PyProof.Rows L2
def errNames : List Str := ["BadKinds", "BadOrder", "BadRows", "BadRuns", "BadRoom", "BadLengths", "BadPlan", "BadPaper", "BadCount", "BadBlock", "Stopped", "Shut", "NotYet", "Empty", "BadText"]
def excCB (K : PySem.W.Frag) (D : Addr) : Bool :=
  decide (PySem.W.findIn K (.ref D) "__getattribute__" = some (some (.builtin "BaseException.__getattribute__"))) && (decide (PySem.W.findIn K (.ref D) "__getattr__" = some none) && (decide (PySem.W.subIn K (.ref D) (.type "BaseException") = some true) && (PySem.W.hasDictIn K D &&
    (decide (PySem.W.findIn K (.ref D) "__class__" = some (some (.builtin "object.__class__"))) && (decide (PySem.W.specialIn K (.builtin "object.__class__") "__get__" = some (some (.builtin "getset_descriptor.__get__"))) && (decide (PySem.W.takesIn K (.builtin "object.__class__") = some true) && decide (PySem.W.mroIn K D (.type "object") = some true)))))))
def errB (x : Str) (K : PySem.W.Frag) : Bool :=
  decide (x ∈ errNames) && (excCB K (He.ga K x) && ((errNames.all fun y => decide (PySem.W.kitOne K (.ref (He.ga K x)) (.ref (He.ga K y)) = some (decide (x = y)))) && (decide (PySem.W.kitOne K (.ref (He.ga K x)) (.type "ValueError") = some true) && decide (PySem.W.exmOne K (.ref (He.ga K x)) (.ref (He.ga K "SortError")) = some true))))
def overB (K : PySem.W.Frag) (C : Addr) : Bool := match K.lookup C with
  | some ⟨.type "type", _, .cls cd, sl⟩ => (match cd.mro, sl.toList with
    | .ref C' :: bm, [_, _, _, _, some (.builtin n), _] => C' == C && (n == "ValueError.__new__" && (!cd.hasDel && (cd.hasDict && PySem.HandSPX.refsVE bm)))
    | _, _ => false)
  | _ => false
def emB (x f : Str) (K : PySem.W.Frag) : Bool :=
  overB K (He.ga K x) && (decide (PySem.W.findIn K (.ref (He.ga K x)) "__setattr__" = some (some (.builtin "object.__setattr__"))) && (decide (PySem.W.subIn K (.ref (He.ga K x)) (.type "BaseException") = some true) && (decide (PySem.W.typeIn K (.ref (He.ga K x)) = some (.type "type")) && (PySem.W.keepIn K (.ref (He.ga K x)) &&
    (decide (PySem.W.findIn K (.ref (He.ga K x)) f = some none) && (decide (PySem.W.findIn K (.ref (He.ga K x)) "__init__" = some (some (.ref (He.fAd K (x, some "__init__"))))) && (decide (PySem.W.typeIn K (.ref (He.fAd K (x, some "__init__"))) = some (.type "function")) &&
      (decide (PySem.W.specialIn K (.ref (He.ga K "SortError")) "__getattribute__" = some (some (.builtin "type.__getattribute__"))) && (PySem.W.readsIn K (He.ga K "SortError") (.type "type") && (match PySem.W.findCls K (.ref (He.ga K "SortError")) (.type "type") "__init__" with | some (.val (.builtin n)) => n == "ValueError.__init__" | _ => false))))))))))
end Rs
namespace Lw
open PySem PySem.Spec PyProof.Rows L2 Rs LamX
/-! ### the text by places -/
def top (i : Nat) : Stmt := PySem.Challenge.pw_runsorts_k05_merges.main.body.getD i (.Pass ⟨0, 0, 0, 0⟩)
abbrev s_law_begun : Stmt := top 39
def d_law_begun : He.DefD := ⟨("_law_begun", none), "_law_begun", "_law_begun", defArgs s_law_begun, defBody s_law_begun, defScope s_law_begun, [], []⟩
abbrev s_law_take : Stmt := top 40
def d_law_take : He.DefD := ⟨("_law_take", none), "_law_take", "_law_take", defArgs s_law_take, defBody s_law_take, defScope s_law_take, [], []⟩
abbrev s_law_kinds : Stmt := top 45
def d_law_kinds : He.DefD := ⟨("_law_kinds", none), "_law_kinds", "_law_kinds", defArgs s_law_kinds, defBody s_law_kinds, defScope s_law_kinds, [], []⟩
abbrev s_law_order : Stmt := top 46
def d_law_order : He.DefD := ⟨("_law_order", none), "_law_order", "_law_order", defArgs s_law_order, defBody s_law_order, defScope s_law_order, [], []⟩
abbrev s_law_value : Stmt := top 47
def d_law_value : He.DefD := ⟨("_law_value", none), "_law_value", "_law_value", defArgs s_law_value, defBody s_law_value, defScope s_law_value, [], []⟩
abbrev s_law_rows : Stmt := top 48
def d_law_rows : He.DefD := ⟨("_law_rows", none), "_law_rows", "_law_rows", defArgs s_law_rows, defBody s_law_rows, defScope s_law_rows, [], []⟩
abbrev s_law_ahead : Stmt := top 49
def d_law_ahead : He.DefD := ⟨("_law_ahead", none), "_law_ahead", "_law_ahead", defArgs s_law_ahead, defBody s_law_ahead, defScope s_law_ahead, [], []⟩
abbrev s_law_sorted : Stmt := top 50
def d_law_sorted : He.DefD := ⟨("_law_sorted", none), "_law_sorted", "_law_sorted", defArgs s_law_sorted, defBody s_law_sorted, defScope s_law_sorted, [], []⟩
abbrev s_law_parts : Stmt := top 52
def d_law_parts : He.DefD := ⟨("_law_parts", none), "_law_parts", "_law_parts", defArgs s_law_parts, defBody s_law_parts, defScope s_law_parts, [], []⟩
abbrev s_need_kinds : Stmt := top 26
def d_need_kinds : He.DefD := ⟨("need_kinds", none), "need_kinds", "need_kinds", defArgs s_need_kinds, defBody s_need_kinds, defScope s_need_kinds, [], []⟩
abbrev s_is_turn : Stmt := top 27
def d_is_turn : He.DefD := ⟨("is_turn", none), "is_turn", "is_turn", defArgs s_is_turn, defBody s_is_turn, defScope s_is_turn, [], []⟩
abbrev s_need_order : Stmt := top 28
def d_need_order : He.DefD := ⟨("need_order", none), "need_order", "need_order", defArgs s_need_order, defBody s_need_order, defScope s_need_order, [], []⟩
abbrev s_is_before : Stmt := top 31
def d_is_before : He.DefD := ⟨("is_before", none), "is_before", "is_before", defArgs s_is_before, defBody s_is_before, defScope s_is_before, [], []⟩
abbrev s_Tree_lesser : Stmt := inClass (top 34) 1
def d_Tree_lesser : He.DefD := ⟨("Tree", some "lesser"), "lesser", "Tree.lesser", defArgs s_Tree_lesser, defBody s_Tree_lesser, defScope s_Tree_lesser, [], []⟩
abbrev s_Tree___init__ : Stmt := inClass (top 34) 0
def d_Tree___init__ : He.DefD := ⟨("Tree", some "__init__"), "__init__", "Tree.__init__", defArgs s_Tree___init__, defBody s_Tree___init__, defScope s_Tree___init__, [], []⟩
abbrev s_BadText___init__ : Stmt := inClass (top 16) 0
def d_BadText___init__ : He.DefD := ⟨("BadText", some "__init__"), "__init__", "BadText.__init__", defArgs s_BadText___init__, defBody s_BadText___init__, defScope s_BadText___init__, [], []⟩
abbrev s_BadRows___init__ : Stmt := inClass (top 4) 0
def d_BadRows___init__ : He.DefD := ⟨("BadRows", some "__init__"), "__init__", "BadRows.__init__", defArgs s_BadRows___init__, defBody s_BadRows___init__, defScope s_BadRows___init__, [], []⟩
abbrev s_BadRuns___init__ : Stmt := inClass (top 5) 0
def d_BadRuns___init__ : He.DefD := ⟨("BadRuns", some "__init__"), "__init__", "BadRuns.__init__", defArgs s_BadRuns___init__, defBody s_BadRuns___init__, defScope s_BadRuns___init__, [], []⟩
abbrev s_is_value : Stmt := top 29
def d_is_value : He.DefD := ⟨("is_value", none), "is_value", "is_value", defArgs s_is_value, defBody s_is_value, defScope s_is_value, [], []⟩
abbrev s_is_row : Stmt := top 30
def d_is_row : He.DefD := ⟨("is_row", none), "is_row", "is_row", defArgs s_is_row, defBody s_is_row, defScope s_is_row, [], []⟩
abbrev s_is_run : Stmt := top 35
def d_is_run : He.DefD := ⟨("is_run", none), "is_run", "is_run", defArgs s_is_run, defBody s_is_run, defScope s_is_run, [], []⟩
abbrev s_need_runsX : Stmt := top 36
def d_need_runsX : He.DefD := ⟨("need_runs", none), "need_runs", "need_runs", defArgs s_need_runsX, defBody s_need_runsX, defScope s_need_runsX, [], []⟩
abbrev s_Tree_first : Stmt := inClass (top 34) 2
def d_Tree_first : He.DefD := ⟨("Tree", some "first"), "first", "Tree.first", defArgs s_Tree_first, defBody s_Tree_first, defScope s_Tree_first, [], []⟩
abbrev s_Tree_turn : Stmt := inClass (top 34) 3
def d_Tree_turn : He.DefD := ⟨("Tree", some "turn"), "turn", "Tree.turn", defArgs s_Tree_turn, defBody s_Tree_turn, defScope s_Tree_turn, [], []⟩
abbrev s_mergedX : Stmt := top 37
def d_mergedX : He.DefD := ⟨("merged", none), "merged", "merged", defArgs s_mergedX, defBody s_mergedX, defScope s_mergedX, [], []⟩
abbrev s_law_bad : Stmt := top 53
def d_law_bad : He.DefD := ⟨("_law_bad", none), "_law_bad", "_law_bad", defArgs s_law_bad, defBody s_law_bad, defScope s_law_bad, [], []⟩
abbrev s_law_alike : Stmt := top 41
def d_law_alike : He.DefD := ⟨("_law_alike", none), "_law_alike", "_law_alike", defArgs s_law_alike, defBody s_law_alike, defScope s_law_alike, [], []⟩
abbrev s_law_class : Stmt := top 42
def d_law_class : He.DefD := ⟨("_law_class", none), "_law_class", "_law_class", defArgs s_law_class, defBody s_law_class, defScope s_law_class, [], []⟩
abbrev s_law_told : Stmt := top 43
def d_law_told : He.DefD := ⟨("_law_told", none), "_law_told", "_law_told", defArgs s_law_told, defBody s_law_told, defScope s_law_told, [], []⟩
abbrev s_law_all : Stmt := top 44
def d_law_all : He.DefD := ⟨("_law_all", none), "_law_all", "_law_all", defArgs s_law_all, defBody s_law_all, defScope s_law_all, [], []⟩
abbrev s_law : Stmt := top 54
def d_law : He.DefD := ⟨("law", none), "law", "law", defArgs s_law, defBody s_law, defScope s_law, [], []⟩
def fn : List He.DefD := [d_law_begun, d_law_take, d_law_kinds, d_law_order, d_law_value, d_law_rows, d_law_ahead, d_law_sorted, d_law_parts, d_need_kinds, d_is_turn, d_need_order, d_is_before, d_Tree_lesser, d_Tree___init__, d_BadText___init__, d_BadRows___init__, d_BadRuns___init__, d_is_value, d_is_row, d_is_run, d_need_runsX, d_Tree_first, d_Tree_turn, d_mergedX, d_law_bad, d_law_alike, d_law_class, d_law_told, d_law_all, d_law]
def fa : List He.Fa := [.free "list",
  .free "len",
  .free "int",
  .glo "_law_take",
  .free "range",
  .free "tuple",
  .glo "_law_value",
  .free "min",
  .free "max",
  .glo "_law_ahead",
  .glo "_law_sorted",
  .int "MOST_COLUMNS" 4,
  .str "NUMBER" "number",
  .str "WORD" "word",
  .str "UP" "up",
  .str "DOWN" "down",
  .glo "is_turn",
  .free "set",
  .glo "is_before",
  .meth "Tree" "lesser",
  .cls "Tree",
  .glo "SortError",
  .free "isinstance",
  .free "str",
  .int "MOST_LETTERS" 6,
  .str "LETTERS" "abcdefghijklmnopqrstuvwxyz",
  .free "bool",
  .int "MOST_NUMBER" 999,
  .glo "is_value",
  .glo "is_row",
  .free "enumerate",
  .int "MOST_RUNS" 40,
  .glo "is_run",
  .glo "BadRuns",
  .glo "need_kinds",
  .glo "need_order",
  .glo "need_runs",
  .mkr "Tree",
  .glo "Tree",
  .meth "Tree" "first",
  .meth "Tree" "turn",
  .glo "_law_alike",
  .glo "_law_class",
  .glo "BadKinds",
  .glo "BadOrder",
  .glo "BadRows",
  .glo "BadRoom",
  .glo "BadLengths",
  .glo "BadPlan",
  .glo "BadPaper",
  .glo "BadCount",
  .glo "BadBlock",
  .glo "Stopped",
  .glo "Shut",
  .glo "NotYet",
  .glo "Empty",
  .glo "BadText",
  .free "ValueError",
  .glo "_law_told",
  .glo "_law_all",
  .glo "_law_begun",
  .glo "_law_kinds",
  .glo "_law_order",
  .glo "_law_rows",
  .glo "_law_parts",
  .glo "merged",
  .glo "_law_bad",
  .glo "law",
  .noat "Tree" "order",
  .noat "Tree" "heads",
  .noat "Tree" "many",
  .noat "Tree" "looks",
  .noat "Tree" "best"]
def tf : List He.Defn := [("law", none)]
def fe : List Str := ["BadRuns"]
def fm : List (Str × Str) := [("BadText", "place"), ("BadRows", "place"), ("BadRuns", "number")]
def fr : Hx.Fs := fm.map (fun p K => Rs.emB p.1 p.2 K) ++ fa.map fun f K => f.ok K
def fs : Hx.Fs := (fun K => decide ((tf.map fun p => (He.cT K p).2).Nodup)) :: (fe.map (fun x K => Rs.errB x K) ++ fr)
/-! ### the head -/
def loose : List PySem.Str := (["__name__", "SortError", "BadKinds", "BadOrder", "BadRows", "BadRuns", "BadRoom", "BadLengths", "BadPlan", "BadPaper", "BadCount", "BadBlock", "Stopped", "Shut", "NotYet", "Empty", "BadText", "NUMBER", "WORD", "MOST_COLUMNS", "MOST_NUMBER", "MOST_LETTERS", "LETTERS", "UP", "DOWN", "need_kinds", "is_turn", "need_order", "is_value", "is_row"] : List PySem.Str) ++ (["is_before", "MOST_RUNS", "Tree", "is_run", "need_runs", "merged", "_law_begun", "_law_take", "_law_alike", "_law_class", "_law_told", "_law_all", "_law_kinds", "_law_order", "_law_value", "_law_rows", "_law_ahead", "_law_sorted", "_law_pairs", "_law_parts", "_law_bad"] : List PySem.Str)
abbrev R : PySem.W.OpenRow := PySem.W.OpenLaw.row PySem.Challenge.rw_runsorts_k05_merges
abbrev hk : PySem.W.Hook := Hx.hookMT fs fn tf
def ob (s : PySem.W.SharedT) : He.AlD × Bool := Hx.obsMT fs fn tf (HandSHeadRun.getT s)
theorem ob_eq (s : PySem.W.SharedT) : ob s = hk.obs s.abs := Hx.obsMT_eq (HandSHeadRun.getT_eq s)
theorem run (w : World) : HandSHeadRun.RunEq R (PySem.W.view R.prog [54]) hk ob 15000 loose w := by
  intro os
  kernel_rfl
end Lw
namespace Rs
open PySem PySem.Spec PyProof.Rows L2

abbrev xAdd : R2 := rI0 fun i j => .int (i + j)
abbrev xSub : R2 := rI0 fun i j => .int (i - j)
abbrev xMul : R2 := rI CMul fun i j => .int (i * j)
abbrev xDiv : R2 := rI CDivW fun i j => .int (i / j)
abbrev xMod : R2 := rI (fun _ j => 0 < j) fun i j => .int (i % j)
abbrev xPow : R2 := rI CPow fun i j => .int (i ^ j.toNat)
abbrev xLt : R2 := rI0 fun i j => .bl (decide (i < j))
abbrev xLe : R2 := rI0 fun i j => .bl (decide (i ≤ j))
abbrev xGt : R2 := rI0 fun i j => .bl (decide (j < i))
abbrev xGe : R2 := rI0 fun i j => .bl (decide (j ≤ i))
abbrev xLtS : R2 := fun x y H Q => ∃ i j, x = .str i ∧ y = .str j ∧ Q (.bl (decide (i.cps.toList < j.cps.toList))) H
abbrev xGtS : R2 := fun x y H Q => ∃ i j, x = .str i ∧ y = .str j ∧ Q (.bl (decide (j.cps.toList < i.cps.toList))) H
def xLtV : R2 := fun x y H Q => xLt x y H Q ∨ xLtS x y H Q
def xGtV : R2 := fun x y H Q => xGt x y H Q ∨ xGtS x y H Q
abbrev xLen (K : PySem.W.Frag) : List V → Hp → VK → Prop := fun xs H Q => ∃ p ys, xs = [.ref p] ∧ (SqL K H p ys ∨ SqT K H p ys) ∧ Q (.int ys.length) H
abbrev xLenS : List V → Hp → VK → Prop := fun xs H Q => ∃ z, xs = [.str z] ∧ z.length ≤ sizeLine ∧ Q (.int z.length) H
abbrev xInt : List V → Hp → VK → Prop := fun xs H Q => (∃ i, xs = [.int i] ∧ Q (.int i) H) ∨ ∃ k, xs = [.bl k] ∧ Q (.int (if k then 1 else 0)) H
abbrev xList (K : PySem.W.Frag) : List V → Hp → VK → Prop := fun xs H Q => ∃ p ys, xs = [.ref p] ∧ (SqL K H p ys ∨ SqT K H p ys) ∧ ∀ l, H l = none → Q (.ref l) (upd H l (.lst ys))
abbrev xTuple (K : PySem.W.Frag) : List V → Hp → VK → Prop := fun xs H Q => ∃ p ys, xs = [.ref p] ∧ ((SqL K H p ys ∧ ∀ l, H l = none → Q (.ref l) (upd H l (.tup ys))) ∨ (SqT K H p ys ∧ Q (.ref p) H))
abbrev xMax2 : List V → Hp → VK → Prop := fun xs H Q => ∃ i j, xs = [.int i, .int j] ∧ Q (.int (if j > i then j else i)) H
abbrev xMin2 : List V → Hp → VK → Prop := fun xs H Q => ∃ i j, xs = [.int i, .int j] ∧ Q (.int (if j < i then j else i)) H
abbrev xInsert : V → List V → Hp → VK → Prop := fun x vs H Q => ∃ (l : Addr) (xs : List V) (i : Int) (y : V), x = .ref l ∧ vs = [.int i, y] ∧ H l = some (.lst xs) ∧ xs.length < sizeLine ∧ 0 ≤ i ∧ i < 2 ^ 63 ∧ Q .non (upd H l (.lst (xs.take i.toNat ++ [y] ++ xs.drop i.toNat)))
abbrev xJoin (K : PySem.W.Frag) : V → List V → Hp → VK → Prop := fun x xs H Q => ∃ a p, ∃ ys : List Str, x = .str a ∧ xs = [.ref p] ∧ (SqL K H p (ys.map V.str) ∨ SqT K H p (ys.map V.str)) ∧ (ys.map (·.length)).sum + ys.length * a.length ≤ 16777216 ∧ Q (.str (Txt.join a ys)) H
def xEqE (K : PySem.W.Frag) : R2 := fun x y H Q => ∃ a b xs ys, x = .ref a ∧ y = .ref b ∧ SqL K H a xs ∧ SqL K H b ys ∧ (xs = [] ∨ ys = []) ∧ Q (.bl (decide (xs.length = ys.length))) H
def xNeE (K : PySem.W.Frag) : R2 := fun x y H Q => ∃ a b xs ys, x = .ref a ∧ y = .ref b ∧ SqL K H a xs ∧ SqL K H b ys ∧ (xs = [] ∨ ys = []) ∧ Q (.bl (!decide (xs.length = ys.length))) H
section
variable {X : Cx}
theorem opx_ltV : OpR X (compareOp .Lt) xLtV := OpR.or op_lt op_lt_str
theorem opx_gtV : OpR X (compareOp .Gt) xGtV := OpR.or op_gt op_gt_str
end
theorem hu64 {A : Around} {k : Nat} (hr : Room k A) : A.units + 64 < cLine := hr.units
def tOpC (r : R2) (ta : TE) (v : V) : TE := fun σ H Q => ta σ H fun x H1 => r x v H1 Q
def tOpD (r : R2) (v : V) (tb : TE) : TE := fun σ H Q => tb σ H fun y H1 => r v y H1 Q
def tConsC (v : V) (tr : TA) : TA := fun σ H Q => tr σ H fun xs H1 => Q (v :: xs) H1
def gSubC (to : TE) (i : V) (t : TSet) : TG := fun v σ H Q => to σ H fun o H1 => t o i v H1 fun H3 => Q σ H3
section
variable {X : Cx} {a b e : Expr} {es : List Expr} {r : R2} {ta tb : TE} {t : TA} {v : V} {pos : Pos}
theorem pe_opC {op : Operator} (ho : OpR X (binaryOp op) r) (ha : PE X a ta) (hb : PE X b (tC v)) : PE X (.BinOp a op b pos) (tOpC r ta v) := pe_op ho ha hb
theorem pe_opD {op : Operator} (ho : OpR X (binaryOp op) r) (ha : PE X a (tC v)) (hb : PE X b tb) : PE X (.BinOp a op b pos) (tOpD r v tb) := pe_op ho ha hb
theorem pe_cmpRC {op : CmpOp} (ho : OpR X (compareOp op) r) (ha : PE X a ta) (hb : PE X b (tC v)) (hm : behindInMarks op b = false) : PE X (.Compare a [op] [b] pos) (tOpC r ta v) := pe_cmpR ho ha hb hm
theorem pt_cmpRC {op : CmpOp} (ho : OpR X (compareOp op) r) (ha : PE X a ta) (hb : PE X b (tC v)) (hm : behindInMarks op b = false) : PT X (.Compare a [op] [b] pos) (tTest (tOpC r ta v)) := pt_cmpR ho ha hb hm
theorem pe_ixC (hr : IxR X r) (ha : PE X a ta) (hb : PE X b (tC v)) (hs : PlainIx b) : PE X (.Subscript a b pos) (tOpC r ta v) := pe_ix hr ha hb hs
theorem pa_consC (he : PE X e (tC v)) (hr : PA X es t) (h : starEach (e :: es) X.env = (false, eval e X.env) :: starEach es X.env := by rfl) : PA X (e :: es) (tConsC v t) := pa_cons he hr h
theorem pe_unN {i : Int} (ha : PE X a (tC (.int i))) : PE X (.UnaryOp .USub a pos) (tC (.int (-i))) := by
  refine ⟨fun pins s σ H Q I h => (pe_un un_neg ha).run pins s σ H Q I ?_⟩
  exact ⟨i, rfl, h⟩
theorem pg_subC {t : TSet} (ho : PE X a ta) (hi : PE X b (tC v)) (hs : PSet X t) (ha : ∀ v, assign (.Subscript a b pos) X.env v = (do
      let ov ← holding [v] (eval a X.env)
      let iv ← holding [v, ov] (eval b X.env)
      standAt pos
      holding [v, ov, iv] (setItem ov iv v)
      release [v, ov, iv] []) := by intro _; rfl) : PG X (.Subscript a b pos) (gSubC ta v t) := pg_sub ho hi hs ha
end
section
variable {X : Cx}
theorem two_lists {pins : List (Addr × Obj)} {σ : L2.St} {H : Hp} {s : Shared} {a b : Addr} {xs ys : List V} (I : Inv X pins σ H s) (h1 : SqL X.K H a xs) (h2 : SqL X.K H b ys) :
    ∃ i1 i2 : List Value, s.heap.IsList a i1.toArray ∧ s.heap.IsList b i2.toArray ∧ xs.length = i1.length ∧ ys.length = i2.length := by
  obtain ⟨i1, r1, ⟨o, n, ho, hc, _, hd⟩, _⟩ := I.list h1
  obtain ⟨i2, r2, ⟨o2, n2, ho2, hc2, _, hd2⟩, _⟩ := I.list h2
  exact ⟨i1, i2, ⟨o, ho, hc, n, hd⟩, ⟨o2, ho2, hc2, n2, hd2⟩, r1.length, r2.length⟩
theorem opx_eqE (hu : X.A.units + 1 < cLine) : OpR X (compareOp .Eq) (xEqE X.K) := by
  intro pins s σ H x y v u Q I rx ry h
  obtain ⟨a, b, xs, ys, rfl, rfl, h1, h2, he, q⟩ := h
  cases rx
  cases ry
  obtain ⟨i1, i2, p1, p2, l1, l2⟩ := two_lists I h1 h2
  show wpAny (model X.prog X.w) X.A (richCompare .Eq (.ref a) (.ref b)) _ _ s
  by_cases e : xs.length = ys.length
  · rw [decide_eq_true e] at q
    have z : i1 = [] ∧ i2 = [] := by
      constructor <;> apply List.eq_nil_of_length_eq_zero <;> rcases he with he | he <;> subst he <;> simp at e l1 l2 <;> simp_all
    obtain ⟨z1, z2⟩ := z
    subst z1
    subst z2
    exact SeqAt.RcAt.lists (e := fun _ => true) p1 p2 rfl (by omega) (fun j h _ => absurd h (by simp)) _ _ _ _ ⟨.bl true, H, I, rfl, q⟩
  · rw [decide_eq_false e] at q
    exact SeqAt.RcAt.lists_lengths p1 p2 (by rw [List.size_toArray, List.size_toArray, ← l1, ← l2]; simpa using e) (by omega) _ _ _ _ ⟨.bl false, H, I, rfl, q⟩
theorem opx_neE (hu : X.A.units + 1 < cLine) : OpR X (compareOp .NotEq) (xNeE X.K) := by
  intro pins s σ H x y v u Q I rx ry h
  obtain ⟨a, b, xs, ys, rfl, rfl, h1, h2, he, q⟩ := h
  cases rx
  cases ry
  obtain ⟨i1, i2, p1, p2, l1, l2⟩ := two_lists I h1 h2
  show wpAny (model X.prog X.w) X.A (richCompare .NotEq (.ref a) (.ref b)) _ _ s
  by_cases e : xs.length = ys.length
  · rw [decide_eq_true e] at q
    have z : i1 = [] ∧ i2 = [] := by
      constructor <;> apply List.eq_nil_of_length_eq_zero <;> rcases he with he | he <;> subst he <;> simp at e l1 l2 <;> simp_all
    obtain ⟨z1, z2⟩ := z
    subst z1
    subst z2
    exact SeqAt.RcNeAt.lists (e := fun _ => true) p1 p2 rfl (by omega) (fun j h _ => absurd h (by simp)) _ _ _ _ ⟨.bl false, H, I, rfl, q⟩
  · rw [decide_eq_false e] at q
    exact SeqAt.RcNeAt.lists_lengths p1 p2 (by rw [List.size_toArray, List.size_toArray, ← l1, ← l2]; simpa using e) (by omega) _ _ _ _ ⟨.bl true, H, I, rfl, q⟩
end

section
variable {X : Cx} {x : Str} {pos : Pos}
theorem pe_gint {i : Int} (hg : Gl X x) (hm : ∃ t, X.mg x = some (.int i t)) (hd : (x == ("__debug__" : Str)) = false := by decide) : PE X (.Name x pos) (tC (.int i)) := by
  obtain ⟨t, e⟩ := hm
  exact pe_glob hg e ⟨t, rfl⟩ hd
theorem pe_gstr {z : Str} (hg : Gl X x) (hm : ∃ t, X.mg x = some (.str z t)) (hd : (x == ("__debug__" : Str)) = false := by decide) : PE X (.Name x pos) (tC (.str z)) := by
  obtain ⟨t, e⟩ := hm
  exact pe_glob hg e ⟨t, rfl⟩ hd
def tIsi (K : PySem.W.Frag) (c : String) (ta : TE) : TE := fun σ H Q => ta σ H fun x H1 => rIsi K [x, .ty c] H1 Q
theorem pe_isi {a b : Expr} {c : String} {ta : TE} {p pos : Pos} (hg : Gl X "isinstance") (hm : X.mg "isinstance" = none) (ha : PE X a ta) (hb : PE X b (tC (.ty c)))
    (e1 : starEach [a, b] X.env = (false, eval a X.env) :: starEach [b] X.env := by rfl) (e3 : starEach [b] X.env = (false, eval b X.env) :: starEach [] X.env := by rfl) (e2 : (backTo pos (starEach [b] X.env)).any (·.1) = false := by rfl) :
    PE X (.Call (.Name "isinstance" p) [a, b] [] pos) (tIsi X.K c ta) := pe_callB call_isi hg hm (by decide +kernel) (pa_cons ha (pa_cons hb pa_nil e3) e1) (by decide) (by decide) e1 e2
def tCB1 (r : List V → Hp → VK → Prop) (ta : TE) : TE := fun σ H Q => ta σ H fun x H1 => r [x] H1 Q
theorem pe_callB1 {a : Expr} {ta : TE} {r : List V → Hp → VK → Prop} {id : String} {p : Pos} (hc : CallR X (.builtin id) r) (hg : Gl X x) (hm : X.mg x = none) (hv : bootBuiltins x = some (.builtin id)) (ha : PE X a ta) (hn : x ≠ "__name__" := by decide) (hd : (x == ("__debug__" : Str)) = false := by decide)
    (e1 : starEach [a] X.env = (false, eval a X.env) :: starEach [] X.env := by rfl) : PE X (.Call (.Name x p) [a] [] pos) (tCB1 r ta) := pe_callB hc hg hm hv (pa_cons ha pa_nil e1) hn hd e1 rfl
theorem pe_callTy1 {a : Expr} {ta : TE} {r : List V → Hp → VK → Prop} {T : String} {p : Pos} (hc : CallR X (.type T) r) (hg : Gl X x) (hm : X.mg x = none) (hv : bootBuiltins x = some (.type T)) (ha : PE X a ta) (hn : x ≠ "__name__" := by decide) (hd : (x == ("__debug__" : Str)) = false := by decide)
    (e1 : starEach [a] X.env = (false, eval a X.env) :: starEach [] X.env := by rfl) : PE X (.Call (.Name x p) [a] [] pos) (tCB1 r ta) := pe_callTy hc hg hm hv (pa_cons ha pa_nil e1) hn hd e1 rfl
theorem isi_go {K : PySem.W.Frag} {c t : String} {x : V} {H : Hp} {Q : VK} {b : Bool} (ty : TyX K H x (.type t)) (h : kitB t c = some b) (q : Q (.bl b) H) : rIsi K [x, .ty c] H Q :=
  ⟨x, .ty c, _, _, b, rfl, .ty c, ty, kit_ty h, q⟩
end

section
variable {X : Cx}
def dcount (ns : List Int) : Nat := (PyProof.Rows.firstMet (fun i => ns.getD i 0) ns.length).length
theorem dcount_nodup {ns : List Int} (h : ns.Nodup) : dcount ns = ns.length := by
  unfold dcount
  rw [RZ.firstMet_nodup h ns.length (Nat.le_refl _), List.take_length]
def tLenSetX (K : PySem.W.Frag) (ta : TE) : TE := fun σ H Q => ta σ H fun x H1 => ∃ (l : Addr) (ns : List Int), x = .ref l ∧ SqL K H1 l (ns.map V.int) ∧ ns.length ≤ 4000 ∧ Q (.int (dcount ns : Nat)) H1
theorem pe_lenSetX {a : Expr} {ta : TE} {p p2 q pos : Pos} (hg : Gl X "len") (hm : X.mg "len" = none) (hg2 : Gl X "set") (hm2 : X.mg "set" = none) (ha : PE X a ta) (hc : X.calm = true := by rfl)
    (na : starEach [a] X.env = (false, eval a X.env) :: starEach [] X.env := by rfl) : PE X (.Call (.Name "len" p) [.Call (.Name "set" p2) [a] [] q] [] pos) (tLenSetX X.K ta) := by
  refine ⟨fun pins s σ H Q I h => ?_⟩
  refine Call_ (ld_blt I hg hm boot_len ?_)
  refine PyProof.Rows.callWith_builtin1 (PyProof.Rows.args_cons ?_ rfl) rfl rfl
  refine Call_ (ld_blt I hg2 hm2 PyProof.Rows.boot_set ?_)
  refine PyProof.Rows.callWith_type1 (PyProof.Rows.args_cons (thn (ha.run pins s σ H _ I h) fun v s1 ⟨x, H1, I1, r1, q1⟩ => PyProof.Rows.args_nil ?_) na) na rfl
  obtain ⟨l, ns, rfl, hq, hl, q1⟩ := q1
  cases r1
  obtain ⟨its, r, pl, hz⟩ := I1.list hq
  have hlen : its.toArray.size = ns.length := by rw [List.size_toArray, ← r.length, List.length_map]
  refine call_set_list (I1.ok.hd hc) pl.isList (by simpa using RZ.intsAre_vals r) (by rw [hlen]; unfold scanBound; omega) fun h' tk hS hk => ?_
  refine PyProof.Rows.args_nil ?_
  rw [hlen] at hS
  obtain ⟨o, es, ep, t, ho, hex, hd, _, _, _, hf, hn⟩ := hS
  have I2 : Inv X pins σ H1 { s1 with heap := h', toks := tk } := I1.kept fun b o e => hk b o (Heap.lt_size e) e
  have hle : dcount ns ≤ ns.length := PyProof.Rows.firstMet_length_le _ _
  have hn' : es.size = dcount ns := hn
  exact call_len_set ho hex hd hf (by rw [hn'] <;> omega) ⟨.int (dcount ns : Nat), H1, I2.tok _, ⟨_, by rw [hn'] <;> rfl⟩, q1⟩
end

def rFld (K : PySem.W.Frag) (f : Str) (x : V) (H1 : Hp) (Q : VK) : Prop := ∃ a C dx fs v, x = .ref a ∧ H1 a = some (.ins C dx fs) ∧ Cls K C ∧ NoAttr K C f ∧ fs.lookup f = some v ∧ Q v H1
def tFl (K : PySem.W.Frag) (ta : TE) (f : Str) : TE := fun σ H Q => ta σ H fun x H1 => rFld K f x H1 Q
theorem pe_fl {X : Cx} {o : Expr} {ta : TE} {f : Str} {pos : Pos} (he : PE X o ta) (hb : attributeBase o f X.env (eval o X.env) = eval o X.env) : PE X (.Attribute o f pos) (tFl X.K ta f) := pe_fld he hb
def rSFl (K : PySem.W.Frag) (f : Str) (x y : V) (D : Ends) (σ : L2.St) (H2 : Hp) : Prop := ∃ a C dx fs, x = .ref a ∧ H2 a = some (.ins C dx fs) ∧ Cls K C ∧ NoAttr K C f ∧ fs.length < 1000 ∧ D.nx σ (upd H2 a (.ins C dx (putF f y fs)))
def sFl (K : PySem.W.Frag) (ta tv : TE) (f : Str) : TS := fun D σ H => tv σ H fun y H1 => ta σ H1 fun x H2 => rSFl K f x y D σ H2
theorem ps_fl {X : Cx} {o e : Expr} {ta tv : TE} {f : Str} {p pos : Pos} (he : PE X o ta) (hv : PE X e tv) (hb : swapsWith e (some (.Attribute o f p)) pos.line X.env = pure false) : PS X (.Assign [.Attribute o f p] e pos) (sFl X.K ta tv f) := ps_fld he hv hb
theorem lk_hd {a : Str} {x : V} {r : List (Str × V)} : ((a, x) :: r).lookup a = some x := by simp [List.lookup]
theorem lk_tl {a b : Str} {x : V} {r : List (Str × V)} (h : ¬ b = a) : ((a, x) :: r).lookup b = r.lookup b := by
  have e : (b == a) = false := by simpa using h
  simp [List.lookup, e]
theorem lk_nil {b : Str} : ([] : List (Str × V)).lookup b = none := rfl
theorem put_nil {a : Str} {v : V} : putF a v [] = [(a, v)] := rfl
theorem put_hd {a : Str} {x v : V} {r : List (Str × V)} : putF a v ((a, x) :: r) = (a, v) :: r := by
  show (if a = a then _ else _) = _
  rw [if_pos rfl]
theorem put_tl {a b : Str} {x v : V} {r : List (Str × V)} (h : ¬ a = b) : putF b v ((a, x) :: r) = (a, x) :: putF b v r := by
  show (if a = b then _ else _) = _
  rw [if_neg h]

def Can (P : Program) (w : World) (K : PySem.W.Frag) (mg : Str → Option Value) (base : Heap) (k : Nat) (at_ : Str × Option Str) (ps : List Str) (sp : Sp) : Prop :=
  ∃ fd, FnOk P w K mg base (L2.CX P w) k (He.fAd K at_) fd ps sp ∧ Binds K fd ps [] ∧ PySem.W.keepIn K (.ref (He.fAd K at_)) = true
section
variable {P : Program} {w : World} {K : PySem.W.Frag} {mg : Str → Option Value} {base : Heap} {k : Nat} {at_ : Str × Option Str} {ps : List Str} {sp sp' : Sp}
theorem Can.mono {j : Nat} (F : Can P w K mg base j at_ ps sp) (h : j ≤ k) : Can P w K mg base k at_ ps sp := by
  obtain ⟨fd, F, b, kp⟩ := F
  exact ⟨fd, F.mono h, b, kp⟩
theorem Can.imp (F : Can P w K mg base k at_ ps sp) (h : ∀ vs H Q E, sp' vs H Q E → sp vs H Q E) : Can P w K mg base k at_ ps sp' := by
  obtain ⟨fd, F, b, kp⟩ := F
  exact ⟨fd, F.imp h, b, kp⟩
def TupLe (H H' : Hp) : Prop := ∀ a xs, H a = some (.tup xs) → H' a = some (.tup xs)
theorem TupLe.refl (H : Hp) : TupLe H H := fun _ _ h => h
theorem TupLe.trans {H H1 H2 : Hp} (a : TupLe H H1) (b : TupLe H1 H2) : TupLe H H2 := fun x o h => b x o (a x o h)
theorem TupLe.same {H H' : Hp} (a : Same H H') : TupLe H H' := fun x o h => a x _ h
theorem TupLe.put {H H' : Hp} {p : Addr} {o : HO} (a : TupLe H H') (h : ∀ xs, H' p ≠ some (.tup xs)) : TupLe H (upd H' p o) := fun x xs e => by
  have e2 := a x xs e
  rw [upd_ne (fun z => by rw [z] at e2; exact h xs e2)]
  exact e2
end
section
variable {X : Cx} {k : Nat} {x C m : Str} {ps : List Str} {sp : Sp} {E : XK} {p pos apos : Pos} {e o : Expr} {es : List Expr} {ta : TE} {t : TA} {M : Option Str}
theorem pe_callC (F : Can X.prog X.w X.K X.mg X.base k (x, none) ps sp) (hr : Room k X.A) (hg : Gl X x) (hm : X.mg x = some (.ref (He.ga X.K x))) (hx : Passes (L2.CX X.prog X.w) X E)
    (ha : PA X (e :: es) t) (hdb : (x == ("__debug__" : Str)) = false := by decide) (he : starEach (e :: es) X.env = (false, eval e X.env) :: starEach es X.env := by rfl) (hpl : (backTo pos (starEach es X.env)).any (·.1) = false := by rfl) :
    PE X (.Call (.Name x p) (e :: es) [] pos) (tCall sp [] E t) := by
  obtain ⟨fd, F, b, kp⟩ := F
  exact pe_call F hr hg hm kp b .nil hx ha hdb he hpl
theorem pe_methC {pl : Sem Bool} (he : PE X o ta) (c : Cls X.K (He.ga X.K C)) (hm : Meth X.K (He.ga X.K C) m (He.ma X.K (He.ga X.K C) m)) (F : Can X.prog X.w X.K X.mg X.base k (C, some m) ps sp) (hr : Room k X.A) (hx : Passes (L2.CX X.prog X.w) X E) (ha : PA X (e :: es) t)
    (hst : starEach (e :: es) X.env = (false, eval e X.env) :: starEach es X.env := by rfl) (hpl : (backTo pos (starEach es X.env)).any (·.1) = false := by rfl)
    (ht : eval (.Call (.Attribute o m apos) (e :: es) [] pos) X.env = (do
      let ov ← eval o X.env
      standAt apos.atName
      let (f, first) ← holding [ov] (getMethod ov m pl)
      callWith pos f first (backTo pos (starEach (e :: es) X.env)) (backToKw pos (keywordEach [] X.env))) := by rfl) :
    PE X (.Call (.Attribute o m apos) (e :: es) [] pos) (tMeth (He.ga X.K C) m sp [] E ta t) := by
  obtain ⟨fd, F, b, kp⟩ := F
  exact pe_meth he c hm F hr b .nil hx ha hst hpl ht
theorem pe_methC0 {pl : Sem Bool} (he : PE X o ta) (c : Cls X.K (He.ga X.K C)) (hm : Meth X.K (He.ga X.K C) m (He.ma X.K (He.ga X.K C) m)) (F : Can X.prog X.w X.K X.mg X.base k (C, some m) ps sp) (hr : Room k X.A) (hx : Passes (L2.CX X.prog X.w) X E)
    (ht : eval (.Call (.Attribute o m apos) [] [] pos) X.env = (do
      let ov ← eval o X.env
      standAt apos.atName
      let (f, first) ← holding [ov] (getMethod ov m pl)
      callWith pos f first (backTo pos (starEach [] X.env)) (backToKw pos (keywordEach [] X.env))) := by rfl) :
    PE X (.Call (.Attribute o m apos) [] [] pos) (tMeth (He.ga X.K C) m sp [] E ta tNil) := by
  obtain ⟨fd, F, b, kp⟩ := F
  exact pe_meth0 he c hm F hr b .nil hx ht
theorem pe_makeC (M : Mk X.K (He.ga X.K C) (He.ma X.K (He.ga X.K C) "__init__")) (F : Can X.prog X.w X.K X.mg X.base k (C, some "__init__") ps sp) (hr : Room (k + 1) X.A) (hg : Gl X C) (hm : X.mg C = some (.ref (He.ga X.K C))) (hx : Passes (L2.CX X.prog X.w) X E)
    (ha : PA X (e :: es) t) (hdb : (C == ("__debug__" : Str)) = false := by decide) (he : starEach (e :: es) X.env = (false, eval e X.env) :: starEach es X.env := by rfl) (hpl : (backTo pos (starEach es X.env)).any (·.1) = false := by rfl) :
    PE X (.Call (.Name C p) (e :: es) [] pos) (tMake (He.ga X.K C) sp [] E t) := by
  obtain ⟨fd, F, b, kp⟩ := F
  exact pe_make M F hr hg hm b .nil hx ha hdb he hpl
end
theorem can_of {P : Program} {w : World} {K : PySem.W.Frag} {mg : Str → Option Value} {base : Heap} {k : Nat} {x qual : Str} {at_ : Str × Option Str} {params : Arguments} {body : List Stmt} {scope : Scope} {N ps : List Str} {sp : Sp} {fd : FuncData}
    (F : FunD K x qual params body scope [] [] (He.fAd K at_) fd) (b : Binds K fd ps []) (S : FnScope N ps scope) (len : ∀ vs H Q E, sp vs H Q E → vs.length = ps.length)
    (t : XK → TS) (h : ∀ (cdv : Value) (A : Around) (outer : List Env) (s : Shared) (H : Hp) (E : XK), Room k (A.deeper (envOfC qual scope s.heap.objs.size (He.fAd K at_) cdv)) →
      PSs (cxOf (L2.CX P w) P w K mg base N qual scope (He.fAd K at_) cdv A outer s H E) body (t E))
    (pure_ : ∀ vs H Q E, sp vs H Q E → t E { nx := fun _ H' => Q .non H', rt := Q } (start N vs) H) : Can P w K mg base (k + 1) at_ ps sp :=
  ⟨fd, F.ok S len fun cdv A outer s H vs Q E hr hsp => ⟨t E, h cdv A outer s H E hr, pure_ vs H Q E hsp⟩, b, F.kp⟩

theorem can_false {P : Program} {w : World} {K : PySem.W.Frag} {mg : Str → Option Value} {base : Heap} {k : Nat} {x qual : Str} {at_ : Str × Option Str} {params : Arguments} {body : List Stmt} {scope : Scope} {ps : List Str} {sp : Sp} {fd : FuncData}
    (F : FunD K x qual params body scope [] [] (He.fAd K at_) fd) (b : Binds K fd ps []) (h : ∀ vs H Q E, ¬ sp vs H Q E) : Can P w K mg base k at_ ps sp :=
  ⟨fd, ⟨fun vs H Q E q => (h vs H Q E q).elim, fun A outer s H args us vs Q E hr he hb hv hs => (h vs H Q E hs).elim⟩, b, F.kp⟩
theorem can_rec {P : Program} {w : World} {K : PySem.W.Frag} {mg : Str → Option Value} {base : Heap} {lev : Nat} {x qual : Str} {at_ : Str × Option Str} {params : Arguments} {body : List Stmt} {scope : Scope} {N ps : List Str} {sp : Nat → Sp} {fd : FuncData}
    (F : FunD K x qual params body scope [] [] (He.fAd K at_) fd) (b : Binds K fd ps []) (S : FnScope N ps scope) (len : ∀ d vs H Q E, sp d vs H Q E → vs.length = ps.length) (no : ∀ vs H Q E, ¬ sp 0 vs H Q E)
    (t : Sp → XK → TS) (h : ∀ (d : Nat), Can P w K mg base (lev + d) at_ ps (sp d) → ∀ (cdv : Value) (A : Around) (outer : List Env) (s : Shared) (H : Hp) (E : XK), Room (lev + d) (A.deeper (envOfC qual scope s.heap.objs.size (He.fAd K at_) cdv)) →
      PSs (cxOf (L2.CX P w) P w K mg base N qual scope (He.fAd K at_) cdv A outer s H E) body (t (sp d) E))
    (pure_ : ∀ d vs H Q E, sp (d + 1) vs H Q E → t (sp d) E { nx := fun _ H' => Q .non H', rt := Q } (start N vs) H) : ∀ d, Can P w K mg base (lev + d) at_ ps (sp d)
  | 0 => can_false F b no
  | d + 1 => can_of F b S (len (d + 1)) (t (sp d)) (h d (can_rec F b S len no t h pure_ d)) (pure_ d)

end Rs

namespace Rs
open PySem PySem.Spec PyProof.Rows L2
section
variable {α β : Type} {F G : α → β → Prop}
theorem P2.get : ∀ {l : List α} {m : List β}, Paired F l m → ∀ {i : Nat} {a : α}, l[i]? = some a → ∃ b, m[i]? = some b ∧ F a b
  | _, _, .nil, _, _, e => by simp at e
  | _, _, .cons h t, 0, a, e => by simp at e; subst e; exact ⟨_, rfl, h⟩
  | _, _, .cons h t, i + 1, a, e => by simpa using P2.get t (i := i) (by simpa using e)
theorem P2.get' : ∀ {l : List α} {m : List β}, Paired F l m → ∀ {i : Nat} {b : β}, m[i]? = some b → ∃ a, l[i]? = some a ∧ F a b
  | _, _, .nil, _, _, e => by simp at e
  | _, _, .cons h t, 0, a, e => by simp at e; subst e; exact ⟨_, rfl, h⟩
  | _, _, .cons h t, i + 1, a, e => by simpa using P2.get' t (i := i) (by simpa using e)
theorem P2.mono (f : ∀ a b, F a b → G a b) : ∀ {l : List α} {m : List β}, Paired F l m → Paired G l m
  | _, _, .nil => .nil
  | _, _, .cons h t => .cons (f _ _ h) (P2.mono f t)
theorem P2.app : ∀ {l l' : List α} {m m' : List β}, Paired F l m → Paired F l' m' → Paired F (l ++ l') (m ++ m')
  | _, _, _, _, .nil, q => q
  | _, _, _, _, .cons h t, q => .cons h (P2.app t q)
theorem P2.one {a : α} {b : β} (h : F a b) : Paired F [a] [b] := .cons h .nil
theorem P2.take : ∀ (n : Nat) {l : List α} {m : List β}, Paired F l m → Paired F (l.take n) (m.take n)
  | 0, _, _, _ => .nil
  | _ + 1, _, _, .nil => .nil
  | n + 1, _, _, .cons h t => .cons h (P2.take n t)
theorem P2.drop : ∀ (n : Nat) {l : List α} {m : List β}, Paired F l m → Paired F (l.drop n) (m.drop n)
  | 0, _, _, q => q
  | _ + 1, _, _, .nil => .nil
  | n + 1, _, _, .cons h t => P2.drop n t
theorem P2.set {a : α} {b : β} (h : F a b) : ∀ (n : Nat) {l : List α} {m : List β}, Paired F l m → Paired F (l.set n a) (m.set n b)
  | _, _, _, .nil => .nil
  | 0, _, _, .cons _ t => .cons h t
  | n + 1, _, _, .cons q t => .cons q (P2.set h n t)
theorem P2.map {γ : Type} {f : γ → α} {g : γ → β} : ∀ (l : List γ), (∀ x ∈ l, F (f x) (g x)) → Paired F (l.map f) (l.map g)
  | [], _ => .nil
  | x :: l, h => .cons (h x (List.mem_cons_self ..)) (P2.map l fun y hy => h y (List.mem_cons_of_mem _ hy))
theorem P2.last {l : List α} {m : List β} {a : α} {b : β} (h : Paired F (l ++ [a]) (m ++ [b])) : F a b := by
  have e : (l ++ [a]).length = (m ++ [b]).length := h.length
  simp at e
  obtain ⟨b', h1, h2⟩ := P2.get h (i := l.length) (a := a) (by simp)
  rw [e] at h1
  simp at h1
  rw [h1]
  exact h2
end
theorem drop_cons {α : Type} : ∀ {l : List α} {i : Nat} {x : α}, l[i]? = some x → l.drop i = x :: l.drop (i + 1)
  | [], _, _, h => by simp at h
  | a :: l, 0, x, h => by simp at h; subst h; rfl
  | a :: l, i + 1, x, h => by simpa using drop_cons (l := l) (i := i) (by simpa using h)
abbrev Rel (α : Type) := Hp → V → α → Prop
def Stable {α : Type} (R : Rel α) : Prop := ∀ (H H' : Hp) (v : V) (x : α), TupLe H H' → R H v x → R H' v x
def IsTp (H : Hp) (v : V) (xs : List V) : Prop := ∃ a, v = .ref a ∧ H a = some (.tup xs)
theorem IsTp.mono {H H' : Hp} {v : V} {xs : List V} (t : TupLe H H') (h : IsTp H v xs) : IsTp H' v xs := let ⟨a, e, q⟩ := h; ⟨a, e, t a xs q⟩
abbrev Row := List Key
abbrev Pr := Int × Row
abbrev Ord := List (Nat × Bool)
def wayS (b : Bool) : Str := if b = true then "up" else "down"
def RowAt : Rel Row := fun H v r => IsTp H v (r.map kV)
def PairAt : Rel Pr := fun H v p => ∃ w, IsTp H v [.int p.1, w] ∧ RowAt H w p.2
def TurnAt : Rel (Nat × Bool) := fun H v t => IsTp H v [.int (t.1 : Int), .str (wayS t.2)]
def IntAt : Rel Int := fun _ v i => v = .int i
def KeyAt : Rel Key := fun _ v i => v = kV i
theorem RowAt.st : Stable RowAt := fun _ _ _ _ t h => IsTp.mono t h
theorem PairAt.st : Stable PairAt := fun _ _ _ _ t ⟨w, a, b⟩ => ⟨w, a.mono t, b.mono t⟩
theorem TurnAt.st : Stable TurnAt := fun _ _ _ _ t h => IsTp.mono t h
theorem IntAt.st : Stable IntAt := fun _ _ _ _ _ h => h
theorem KeyAt.st : Stable KeyAt := fun _ _ _ _ _ h => h
def Lst {α : Type} (R : Rel α) (H : Hp) (l : Addr) (xs : List α) : Prop := ∃ vs, H l = some (.lst vs) ∧ Paired (R H) vs xs
def LstV {α : Type} (R : Rel α) : Rel (List α) := fun H v xs => ∃ l, v = .ref l ∧ Lst R H l xs
section
variable {α : Type} {R : Rel α} {H H' : Hp} {l : Addr} {xs : List α}
theorem Lst.len (h : Lst R H l xs) : ∃ vs, H l = some (.lst vs) ∧ vs.length = xs.length := let ⟨vs, a, b⟩ := h; ⟨vs, a, b.length⟩
theorem Paired.tl (s : Stable R) (t : TupLe H H') {vs : List V} (h : Paired (R H) vs xs) : Paired (R H') vs xs := P2.mono (fun v x q => s H H' v x t q) h
theorem Lst.keep (s : Stable R) (t : TupLe H H') (h : Lst R H l xs) (e : ∀ o, H l = some o → H' l = some o) : Lst R H' l xs := let ⟨vs, a, b⟩ := h; ⟨vs, e _ a, Paired.tl s t b⟩
theorem Lst.same (s : Stable R) (k : Same H H') (h : Lst R H l xs) : Lst R H' l xs := h.keep s (TupLe.same k) fun o => k l o
theorem LstV.same (s : Stable R) (k : Same H H') {v : V} (h : LstV R H v xs) : LstV R H' v xs := let ⟨l, e, q⟩ := h; ⟨l, e, q.same s k⟩
end
theorem Same.new {H : Hp} {p : Addr} {o : HO} (h : H p = none) : Same H (upd H p o) := fun a u e => by
  rw [upd_ne (ne_of_none e h)]
  exact e
theorem Same.mut {H H' : Hp} {p : Addr} {o : HO} (e : Same H H') (h : H p = none) : Same H (upd H' p o) := fun a u ha => by
  rw [upd_ne (ne_of_none ha h)]
  exact e a u ha
theorem TupLe.new {H : Hp} {p : Addr} {o : HO} (h : H p = none) : TupLe H (upd H p o) := TupLe.same (Same.new h)
theorem TupLe.list {H H' : Hp} {p : Addr} {o : HO} {vs : List V} (a : TupLe H H') (h : H' p = some (.lst vs)) : TupLe H (upd H' p o) := a.put fun xs e => by rw [h] at e; cases e
def But (S : List Addr) (H H' : Hp) : Prop := ∀ b o, H b = some o → b ∉ S → H' b = some o
theorem But.refl (S : List Addr) (H : Hp) : But S H H := fun _ _ h _ => h
theorem But.trans {S : List Addr} {H H1 H2 : Hp} (a : But S H H1) (b : But S H1 H2) : But S H H2 := fun c o h n => b c o (a c o h n) n
theorem But.same {S : List Addr} {H H1 : Hp} (a : Same H H1) : But S H H1 := fun c o h _ => a c o h
theorem But.new {S : List Addr} {H H1 : Hp} {p : Addr} {o : HO} (a : But S H H1) (h : H1 p = none) : But S H (upd H1 p o) := fun c u e n => by
  have e2 := a c u e n
  rw [upd_ne (ne_of_none e2 h)]
  exact e2
theorem But.put {S : List Addr} {H H1 : Hp} {p : Addr} {o : HO} (a : But S H H1) (h : p ∈ S) : But S H (upd H1 p o) := fun c u e n => by
  rw [upd_ne (fun z => n (by rw [z]; exact h))]
  exact a c u e n
end Rs
namespace Rs
open PySem PySem.Spec PyProof.Rows L2
theorem But.mut {S : List Addr} {H H1 : Hp} {p : Addr} {o : HO} (a : But S H H1) (h : H p = none) : But S H (L2.upd H1 p o) := fun c u e n => by
  rw [upd_ne (ne_of_none e h)]
  exact a c u e n
theorem But.wide {S T : List Addr} {H H1 : Hp} (a : But S H H1) (h : ∀ x ∈ S, x ∈ T) : But T H H1 := fun c u e n => a c u e fun z => n (h c z)
theorem But.fresh {S : List Addr} {H H0 H1 : Hp} (a : But S H H1) (s : Same H0 H) (h : ∀ x ∈ S, H0 x = none) : Same H0 H1 := fun c u e => a c u (s c u e) fun z => by
  rw [h c z] at e
  cases e
theorem none_of_but {S : List Addr} {H H1 : Hp} {p : Addr} (a : But S H H1) (h : H1 p = none) (n : p ∉ S) : H p = none := by
  cases q : H p with
  | none => rfl
  | some o =>
    rw [a p o q n] at h
    cases h
theorem ixN_nat {n j : Nat} (h : j < n) : ixN n (j : Int) = some j := by
  unfold ixN
  rw [if_pos (by omega), if_pos (by omega)]
  simp
theorem ixN_zero' {n : Nat} (h : 0 < n) : ixN n 0 = some 0 := ixN_nat (j := 0) h
section
variable {K : PySem.W.Frag} {H : Hp} {Q : VK} {x v : V} {xs : List V} {i : Int} {j : Nat}
theorem ixT (h : IsTp H x xs) (hi : i = (j : Int)) (e : xs[j]? = some v) (q : Q v H) : rIxT K x (.int i) H Q := by
  obtain ⟨a, rfl, h⟩ := h
  exact ⟨a, xs, i, v, rfl, rfl, SqT.of h, at_of hi e, q⟩
theorem ixL {a : Addr} (h : H a = some (.lst xs)) (hi : i = (j : Int)) (e : xs[j]? = some v) (q : Q v H) : rIxL K (.ref a) (.int i) H Q := ⟨a, xs, i, v, rfl, rfl, SqL.of h, at_of hi e, q⟩
theorem ixLast {a : Addr} (h : H a = some (.lst (xs ++ [v]))) (q : Q v H) : rIxL K (.ref a) (.int (-1)) H Q := ⟨a, _, _, v, rfl, rfl, SqL.of h, atI_last _ _, q⟩
theorem lenL {a : Addr} (h : H a = some (.lst xs)) {n : Int} (e : n = (xs.length : Int)) (q : Q (.int n) H) : xLen K [.ref a] H Q := by
  subst e
  exact ⟨a, xs, rfl, .inl (SqL.of h), q⟩
theorem neE {a p : Addr} (h : H a = some (.lst xs)) (hp : H p = none) {b : Bool} (e : b = !xs.isEmpty) (q : Q (.bl b) (upd H p (.lst []))) : xNeE K (.ref a) (.ref p) (upd H p (.lst [])) Q := by
  subst e
  refine ⟨a, p, xs, [], rfl, rfl, SqL.of (by rw [upd_ne (ne_of_none h hp)]; exact h), SqL.of upd_same, .inr rfl, ?_⟩
  cases xs <;> exact q
theorem eqE {a p : Addr} (h : H a = some (.lst xs)) (hp : H p = none) {b : Bool} (e : b = xs.isEmpty) (q : Q (.bl b) (upd H p (.lst []))) : xEqE K (.ref a) (.ref p) (upd H p (.lst [])) Q := by
  subst e
  refine ⟨a, p, xs, [], rfl, rfl, SqL.of (by rw [upd_ne (ne_of_none h hp)]; exact h), SqL.of upd_same, .inr rfl, ?_⟩
  cases xs <;> exact q
end
theorem lc_yes {σ : L2.St} {H : Hp} {A B : Hp → Prop} (h : A H) : tYes σ H (fun b H3 => if b = true then A H3 else B H3) := by
  show if true = true then A H else B H
  rw [if_pos rfl]
  exact h
theorem sz0 : (0 : Nat) ≤ sizeLine := Nat.zero_le _
theorem szle {n : Nat} (h : n ≤ 100000) : n ≤ sizeLine := Nat.le_trans h (by decide)
theorem szlt {n : Nat} (h : n < 100000) : n < sizeLine := Nat.lt_of_lt_of_le h (by decide)
def keyLt : Key → Key → Bool
  | .inl i, .inl j => decide (i < j)
  | .inr s, .inr t => decide (s.cps.toList < t.cps.toList)
  | _, _ => false
def kcol (r : Row) (c : Nat) : Key := r.getD c (.inl 0)
def before : Ord → Pr → Pr → Bool
  | [], p, q => decide (p.1 < q.1)
  | t :: o, p, q => if kcol p.2 t.1 = kcol q.2 t.1 then before o p q else (keyLt (kcol p.2 t.1) (kcol q.2 t.1) == t.2)
def Cmp (o : Ord) (p q : Row) : Prop := ∀ t ∈ o, t.1 < p.length ∧ t.1 < q.length ∧ (kcol p t.1).isLeft = (kcol q t.1).isLeft
theorem kcol_get {r : Row} {c : Nat} (h : c < r.length) : r[c]? = some (kcol r c) := by
  unfold kcol
  rw [List.getD_eq_getElem?_getD, List.getElem?_eq_getElem h]
  rfl
theorem kV_inj {x y : Key} (h : kV x = kV y) : x = y := by
  cases x <;> cases y <;> simp [kV] at h <;> subst h <;> rfl
theorem kV_dec (x y : Key) : decide (kV x = kV y) = decide (x = y) := by
  by_cases h : x = y
  · subst h; simp
  · rw [decide_eq_false h, decide_eq_false fun e => h (kV_inj e)]
theorem kV_scal {x y : Key} (h : x.isLeft = y.isLeft) : scal (kV x) (kV y) = true := by
  cases x <;> cases y <;> first | rfl | cases h
theorem ltV_go {H : Hp} {Q : VK} {x y : Key} (h : x.isLeft = y.isLeft) (q : Q (.bl (keyLt x y)) H) : xLtV (kV x) (kV y) H Q := by
  cases x <;> cases y
  · exact .inl ⟨_, _, rfl, rfl, q⟩
  · cases h
  · cases h
  · exact .inr ⟨_, _, rfl, rfl, q⟩
theorem gtV_go {H : Hp} {Q : VK} {x y : Key} (h : x.isLeft = y.isLeft) (q : Q (.bl (keyLt y x)) H) : xGtV (kV x) (kV y) H Q := by
  cases x <;> cases y
  · exact .inl ⟨_, _, rfl, rfl, q⟩
  · cases h
  · cases h
  · exact .inr ⟨_, _, rfl, rfl, q⟩
theorem str_ext {s t : Str} (h : s.cps.toList = t.cps.toList) : s = t := by
  cases s; cases t
  simp at h
  subst h
  rfl
theorem keyLt_irrefl (x : Key) : keyLt x x = false := by
  cases x <;> simp [keyLt]
theorem keyLt_trans {x y z : Key} (a : keyLt x y = true) (b : keyLt y z = true) : keyLt x z = true := by
  cases x <;> cases y <;> cases z <;> simp [keyLt] at a b ⊢
  · omega
  · exact List.lt_trans a b
theorem keyLt_tot {x y : Key} (h : x.isLeft = y.isLeft) (n : x ≠ y) : keyLt y x = !keyLt x y := by
  cases x <;> cases y
  · simp only [keyLt]
    rename_i i j
    have : i ≠ j := fun e => n (by rw [e])
    by_cases e : i < j
    · rw [decide_eq_true e, decide_eq_false (by omega)]; rfl
    · rw [decide_eq_false e, decide_eq_true (by omega)]; rfl
  · cases h
  · cases h
  · simp only [keyLt]
    rename_i s t
    by_cases e : s.cps.toList < t.cps.toList
    · rw [decide_eq_true e, decide_eq_false (fun z => List.lt_irrefl _ (List.lt_trans e z))]; rfl
    · have : t.cps.toList < s.cps.toList := by
        rcases Std.lt_trichotomy s.cps.toList t.cps.toList with h1 | h1 | h1
        · exact absurd h1 e
        · exact absurd (by rw [str_ext h1]) n
        · exact h1
      rw [decide_eq_false e, decide_eq_true this]; rfl
theorem newS {H H1 : Hp} {q : Addr} {o : HO} (h : H q = none) (e : L2.upd H q o = H1) : Same H H1 := by
  subst e
  exact Rs.Same.new h
theorem newE {H H1 : Hp} {q : Addr} {o : HO} (e : L2.upd H q o = H1) : H1 q = some o := by
  subst e
  exact upd_same
end Rs

namespace Rs
open PySem PySem.Spec PyProof.Rows L2
def letters : List Nat := ("abcdefghijklmnopqrstuvwxyz" : Str).cps.toList
def isValue (k : Str) : Key → Bool
  | .inl i => decide (k ≠ "word") && (decide (-999 ≤ i) && decide (i ≤ 999))
  | .inr s => decide (k = "word") && (decide (s.length ≤ 6) && s.cps.toList.all fun c => decide (c ∈ letters))
def isRow (ks : List Str) (r : Row) : Bool := decide (r.length = ks.length) && (List.range ks.length).all fun i => isValue (ks.getD i "") (kcol r i)
structure GoodKinds (ks : List Str) : Prop where
  pos : 1 ≤ ks.length
  le : ks.length ≤ 4
  all : ∀ k ∈ ks, k = "number" ∨ k = "word"
structure GoodOrd (ks : List Str) (o : Ord) : Prop where
  ne : o ≠ []
  col : ∀ t ∈ o, t.1 < ks.length
  nd : (o.map (·.1)).Nodup
theorem isRow_len {ks : List Str} {r : Row} (h : isRow ks r = true) : r.length = ks.length := by
  unfold isRow at h
  simp only [Bool.and_eq_true, decide_eq_true_eq] at h
  exact h.1
theorem isRow_val {ks : List Str} {r : Row} (h : isRow ks r = true) {i : Nat} (hi : i < ks.length) : isValue (ks.getD i "") (kcol r i) = true := by
  unfold isRow at h
  simp only [Bool.and_eq_true, decide_eq_true_eq, List.all_eq_true, List.mem_range] at h
  exact h.2 i hi
theorem isValue_left {k : Str} {x y : Key} (a : isValue k x = true) (b : isValue k y = true) : x.isLeft = y.isLeft := by
  cases x <;> cases y <;> simp [isValue] at a b ⊢
  · exact absurd b.1 a.1
  · exact absurd a.1 b.1
theorem cmp_of {ks : List Str} {o : Ord} {p q : Row} (ho : ∀ t ∈ o, t.1 < ks.length) (hp : isRow ks p = true) (hq : isRow ks q = true) : Cmp o p q := fun t ht => by
  have h := ho t ht
  exact ⟨by rw [isRow_len hp]; exact h, by rw [isRow_len hq]; exact h, isValue_left (isRow_val hp h) (isRow_val hq h)⟩
theorem Cmp.tail {t : Nat × Bool} {o : Ord} {p q : Row} (h : Cmp (t :: o) p q) : Cmp o p q := fun u hu => h u (List.mem_cons_of_mem _ hu)
theorem Cmp.head {t : Nat × Bool} {o : Ord} {p q : Row} (h : Cmp (t :: o) p q) : (kcol p t.1).isLeft = (kcol q t.1).isLeft := (h t (List.mem_cons_self ..)).2.2
theorem before_irrefl : ∀ (o : Ord) (p : Pr), before o p p = false
  | [], p => by simp [before]
  | t :: o, p => by simp [before, before_irrefl o p]
theorem before_trans : ∀ (o : Ord) {p q r : Pr}, Cmp o p.2 q.2 → Cmp o q.2 r.2 → before o p q = true → before o q r = true → before o p r = true
  | [], p, q, r, _, _, a, b => by
    simp [before] at a b ⊢
    omega
  | t :: o, p, q, r, c1, c2, a, b => by
    unfold before at a b ⊢
    have h1 := c1.head
    have h2 := c2.head
    by_cases e1 : kcol p.2 t.1 = kcol q.2 t.1
    · rw [if_pos e1] at a
      by_cases e2 : kcol q.2 t.1 = kcol r.2 t.1
      · rw [if_pos e2] at b
        rw [if_pos (e1.trans e2)]
        exact before_trans o c1.tail c2.tail a b
      · rw [if_neg e2] at b
        rw [e1, if_neg e2]
        exact b
    · rw [if_neg e1] at a
      by_cases e2 : kcol q.2 t.1 = kcol r.2 t.1
      · rw [← e2, if_neg e1]
        exact a
      · rw [if_neg e2] at b
        have ea := beq_iff_eq.mp a
        have eb := beq_iff_eq.mp b
        have t1 := keyLt_tot h1 e1
        have t2 := keyLt_tot h2 e2
        cases ht : t.2 with
        | true =>
          rw [ht] at ea eb
          have tr := keyLt_trans ea eb
          rw [if_neg (fun z => by rw [z, keyLt_irrefl] at tr; cases tr), tr]
          rfl
        | false =>
          rw [ht] at ea eb
          rw [ea] at t1
          rw [eb] at t2
          have tr := keyLt_trans t2 t1
          have ne : kcol p.2 t.1 ≠ kcol r.2 t.1 := fun z => by rw [z, keyLt_irrefl] at tr; cases tr
          rw [if_neg ne]
          have t3 := keyLt_tot (h1.trans h2) ne
          rw [tr] at t3
          cases hk : keyLt (kcol p.2 t.1) (kcol r.2 t.1) with
          | false => rfl
          | true => rw [hk] at t3; cases t3
theorem before_tot : ∀ (o : Ord) {p q : Pr}, Cmp o p.2 q.2 → p.1 ≠ q.1 → before o q p = !before o p q
  | [], p, q, _, n => by
    simp only [before]
    by_cases e : p.1 < q.1
    · rw [decide_eq_true e, decide_eq_false (by omega)]; rfl
    · rw [decide_eq_false e, decide_eq_true (by omega)]; rfl
  | t :: o, p, q, c, n => by
    unfold before
    by_cases e1 : kcol p.2 t.1 = kcol q.2 t.1
    · rw [if_pos e1, if_pos e1.symm]
      exact before_tot o c.tail n
    · rw [if_neg e1, if_neg fun z => e1 z.symm, keyLt_tot c.head e1]
      cases keyLt (kcol p.2 t.1) (kcol q.2 t.1) <;> cases t.2 <;> rfl
structure Fine (ks : List Str) (xs : List Pr) : Prop where
  row : ∀ p ∈ xs, isRow ks p.2 = true
  nd : (xs.map (·.1)).Nodup
theorem Fine.perm {ks : List Str} {xs ys : List Pr} (h : Fine ks xs) (p : ys.Perm xs) : Fine ks ys := ⟨fun q hq => h.row q (p.mem_iff.mp hq), (p.map (·.1)).nodup_iff.mpr h.nd⟩
theorem Fine.sub {ks : List Str} {xs ys : List Pr} (h : Fine ks xs) (s : ys.Sublist xs) : Fine ks ys := ⟨fun q hq => h.row q (s.subset hq), h.nd.sublist (s.map (·.1))⟩
theorem Fine.take {ks : List Str} {xs : List Pr} (h : Fine ks xs) (n : Nat) : Fine ks (xs.take n) := h.sub (List.take_sublist _ _)
theorem Fine.drop {ks : List Str} {xs : List Pr} (h : Fine ks xs) (n : Nat) : Fine ks (xs.drop n) := h.sub (List.drop_sublist _ _)
def Up (o : Ord) (xs : List Pr) : Prop := xs.Pairwise fun p q => before o p q = true
theorem up_unique {ks : List Str} {o : Ord} (ho : ∀ t ∈ o, t.1 < ks.length) : ∀ {xs ys : List Pr}, Fine ks xs → xs.Perm ys → Up o xs → Up o ys → xs = ys
  | [], ys, _, p, _, _ => (List.Perm.nil_eq p)
  | x :: xs, [], _, p, _, _ => absurd p.symm.nil_eq (by simp)
  | x :: xs, y :: ys, f, p, a, b => by
    have fy : Fine ks (y :: ys) := f.perm p.symm
    have e : x = y := by
      have hx : x ∈ y :: ys := p.mem_iff.mp (List.mem_cons_self ..)
      have hy : y ∈ x :: xs := p.mem_iff.mpr (List.mem_cons_self ..)
      rcases List.mem_cons.mp hx with h | h
      · exact h
      · rcases List.mem_cons.mp hy with h' | h'
        · exact h'.symm
        · have b1 : before o y x = true := List.rel_of_pairwise_cons b h
          have a1 : before o x y = true := List.rel_of_pairwise_cons a h'
          have t := before_trans o (cmp_of ho (f.row x (List.mem_cons_self ..)) (f.row y hy)) (cmp_of ho (f.row y hy) (f.row x (List.mem_cons_self ..))) a1 b1
          rw [before_irrefl] at t
          cases t
    subst e
    rw [up_unique ho (f.sub (List.sublist_cons_self ..)) p.cons_inv (List.Pairwise.of_cons a) (List.Pairwise.of_cons b)]
abbrev N_is_before : List Str := ["order", "one", "other", "column", "way"]
abbrev P_is_before : List Str := ["order", "one", "other"]
def sp_is_before (K : PySem.W.Frag) : Sp := fun vs H Q E => match vs with
  | [vo, a, b] => ∃ o p q, LstV TurnAt H vo o ∧ PairAt H a p ∧ PairAt H b q ∧ Cmp o p.2 q.2 ∧ Q (.bl (before o p q)) H
  | _ => False
def t_is_before (K : PySem.W.Frag) (E : XK) : TS := (tSeq (tFor (iList K (tVar 0)) (gTup K 2 (gCons (gName 3) (gCons (gName 4) gNil))) 
    (tIfS (tTest (tOp rNe (tOp (rIxT K) (tOpC (rIxT K) (tVar 1) (.int 1)) (tVar 3)) (tOp (rIxT K) (tOpC (rIxT K) (tVar 2) (.int 1)) (tVar 3)))) (tRet (tOp rEq (tOp xLtV (tOp (rIxT K) (tOpC (rIxT K) (tVar 1) (.int 1)) (tVar 3)) (tOp (rIxT K) (tOpC (rIxT K) (tVar 2) (.int 1)) (tVar 3))) (tOpC rEq (tVar 4) (.str "up")))) tNext))
  (tRet (tOp xLt (tOpC (rIxT K) (tVar 1) (.int 0)) (tOpC (rIxT K) (tVar 2) (.int 0)))))
theorem before_cons (t : Nat × Bool) (o : Ord) (p q : Pr) : before (t :: o) p q = if kcol p.2 t.1 = kcol q.2 t.1 then before o p q else (keyLt (kcol p.2 t.1) (kcol q.2 t.1) == t.2) := rfl
theorem way_eq (b : Bool) : decide (V.str (wayS b) = V.str "up") = b := by
  cases b
  · exact decide_eq_false fun e => absurd e (by decide +kernel)
  · exact decide_eq_true rfl
theorem pure_is_before {K : PySem.W.Frag} : ∀ vs H Q E, sp_is_before K vs H Q E → t_is_before K E { nx := fun _ H' => Q .non H', rt := Q } (start N_is_before vs) H := by
  intro vs H Q E h
  match vs, h with
  | [vo, a, b], h =>
    obtain ⟨o, p, q, ⟨lo, rfl, ts, hl, hts⟩, ⟨w1, ha, hr1⟩, ⟨w2, hb, hr2⟩, hc, k⟩ := h
    refine ⟨_, rfl, lo, rfl, ⟨_, SqL.of hl⟩, for_list (K := K) (a := lo) (xs := ts) (fun i σ H' => ∃ x3 x4, σ = [some (.ref lo), some a, some b, x3, x4] ∧ H' = H ∧ before o p q = before (o.drop i) p q) ⟨none, none, rfl, rfl, rfl⟩ ?_ ?_ ?_⟩
    · rintro i σ H' _ ⟨_, _, _, rfl, _⟩
      exact SqL.of hl
    · rintro i v σ H' hi ⟨x3, x4, rfl, rfl, he⟩
      obtain ⟨t, ht, at_, rfl, et⟩ := P2.get hts hi
      have hd : o.drop i = t :: o.drop (i + 1) := drop_cons ht
      obtain ⟨c1, c2, c3⟩ := hc t (List.mem_of_getElem? ht)
      refine ⟨at_, _, rfl, SqT.of et, rfl, _, _, rfl, _, _, rfl, rfl, ?_⟩
      refine ⟨_, rfl, ixT ha (j := 1) rfl rfl ⟨_, rfl, ixT hr1 (j := t.1) rfl (by rw [List.getElem?_map, kcol_get c1]; rfl) ⟨_, rfl, ixT hb (j := 1) rfl rfl ⟨_, rfl, ixT hr2 (j := t.1) rfl (by rw [List.getElem?_map, kcol_get c2]; rfl) ⟨kV_scal c3, _, rfl, ?_⟩⟩⟩⟩⟩
      rw [kV_dec]
      rw [hd, before_cons] at he
      by_cases e : kcol p.2 t.1 = kcol q.2 t.1
      · rw [decide_eq_true e]
        rw [if_pos e] at he
        exact ⟨_, _, rfl, rfl, he⟩
      · rw [decide_eq_false e]
        rw [if_neg e] at he
        refine ⟨_, rfl, ixT ha (j := 1) rfl rfl ⟨_, rfl, ixT hr1 (j := t.1) rfl (by rw [List.getElem?_map, kcol_get c1]; rfl) ⟨_, rfl, ixT hb (j := 1) rfl rfl ⟨_, rfl, ixT hr2 (j := t.1) rfl (by rw [List.getElem?_map, kcol_get c2]; rfl) (ltV_go c3 ⟨_, rfl, rfl, rfl, ?_⟩)⟩⟩⟩⟩
        rw [way_eq]
        rw [he] at k
        have z : decide (V.bl (keyLt (kcol p.2 t.1) (kcol q.2 t.1)) = V.bl t.2) = (keyLt (kcol p.2 t.1) (kcol q.2 t.1) == t.2) := by
          cases keyLt (kcol p.2 t.1) (kcol q.2 t.1) <;> cases t.2 <;> rfl
        rw [z]
        exact k
    · rintro σ H' ⟨x3, x4, rfl, rfl, he⟩
      have e0 : before o p q = decide (p.1 < q.1) := by rw [he, List.drop_of_length_le (by rw [← hts.length]; exact Nat.le_refl _)]; rfl
      rw [e0] at k
      exact ⟨_, rfl, ixT ha (j := 0) rfl rfl ⟨_, rfl, ixT hb (j := 0) rfl rfl ⟨_, _, rfl, rfl, k⟩⟩⟩
end Rs

namespace Rs
open PySem PySem.Spec PyProof.Rows L2
structure Box (H : Hp) (a l : Addr) : Prop where
  ex : ∃ (ns : List Int) (st : Int), H a = some (.lst [.ref l, .int st]) ∧ H l = some (.lst (ns.map V.int)) ∧ 0 ≤ st
theorem Box.ne {H : Hp} {a l : Addr} (b : Box H a l) : a ≠ l := by
  obtain ⟨ns, st, h1, h2, _⟩ := b.ex
  intro e
  subst e
  rw [h1] at h2
  cases ns with
  | nil => cases h2
  | cons n ns => cases h2
theorem Box.keep {H H' : Hp} {a l : Addr} (b : Box H a l) (h1 : ∀ o, H a = some o → H' a = some o) (h2 : ∀ o, H l = some o → H' l = some o) : Box H' a l := by
  obtain ⟨ns, st, e1, e2, h⟩ := b.ex
  exact ⟨ns, st, h1 _ e1, h2 _ e2, h⟩
theorem Box.same {H H' : Hp} {a l : Addr} (b : Box H a l) (s : Same H H') : Box H' a l := b.keep (fun o => s a o) fun o => s l o
theorem Box.tup {H H' : Hp} {a l : Addr} (b : Box H a l) (k : But [a, l] H H') : TupLe H H' := fun c xs e => by
  obtain ⟨ns, st, e1, e2, h⟩ := b.ex
  refine k c _ e ?_
  intro hm
  simp at hm
  rcases hm with rfl | rfl
  · rw [e1] at e; cases e
  · rw [e2] at e; cases e
theorem un {H : Hp} {a p : Addr} {o u : HO} (h : H a = some o) (hp : H p = none) : upd H p u a = some o := by
  rw [upd_ne (ne_of_none h hp)]
  exact h
theorem up {H : Hp} {a p : Addr} {o u : HO} (h : H a = some o) (hp : a ≠ p) : upd H p u a = some o := by
  rw [upd_ne hp]
  exact h
theorem nn {a b c : Addr} (h1 : a ≠ b) (h2 : a ≠ c) : a ∉ [b, c] := by
  intro hm
  simp at hm
  rcases hm with h | h
  · exact h1 h
  · exact h2 h
abbrev N_law_begun : List Str := ["_law_script", "_law_stirred", "_law_cell"]
abbrev P_law_begun : List Str := ["_law_script"]
def sp_law_begun (K : PySem.W.Frag) : Sp := fun vs H Q E => match vs with
  | [s] => ∃ (p : Addr) (ns : List Int), s = .ref p ∧ SqL K H p (ns.map V.int) ∧ ns.length ≤ 63 ∧ ∀ a l H', H a = none → H l = none → Box H' a l → Same H H' → Q (.ref a) H'
  | _ => False
def t_law_begun (K : PySem.W.Frag) (E : XK) : TS := (tSeq (tAsg (tC (.int 0)) (gName 1))
  (tSeq (tFor (iList K (tVar 0)) (gName 2) (tAsg (tOpC xMod (tOpC xAdd (tOp xAdd (tOpC xMul (tVar 1) (.int 48271)) (tOpC xMul (tVar 2) (.int 69621))) (.int 11)) (.int 2147483647)) (gName 1)))
   (tRet (tLst (tCons (tCB1 (xList K) (tVar 0)) (tCons (tOp xMul (tVar 1) (tCB1 xInt (tOpC xGt (tCB1 (xLen K) (tVar 0)) (.int 2)))) tNil))))))
theorem pure_law_begun {K : PySem.W.Frag} : ∀ vs H Q E, sp_law_begun K vs H Q E → t_law_begun K E { nx := fun _ H' => Q .non H', rt := Q } (start N_law_begun vs) H := by
  intro vs H Q E h
  match vs, h with
  | [s], h =>
    obtain ⟨p, ns, rfl, hs, hlen, k⟩ := h
    refine ⟨_, rfl, p, rfl, ⟨_, hs⟩, for_list (K := K) (a := p) (xs := ns.map V.int) (fun i σ H' => ∃ (st : Int) (x2 : Option V), σ = [some (.ref p), some (.int st), x2] ∧ H' = H ∧ 0 ≤ st) ⟨0, none, rfl, rfl, Int.le_refl _⟩ ?_ ?_ ?_⟩
    · rintro i σ H' _ ⟨_, _, _, rfl, _⟩
      exact hs
    · rintro i v σ H' hi ⟨st, x2, rfl, rfl, h0⟩
      rw [List.getElem?_map] at hi
      obtain ⟨n, hn, rfl⟩ := Option.map_eq_some_iff.mp hi
      refine ⟨_, rfl, _, _, rfl, rfl, .inr ⟨by decide, by decide⟩, _, rfl, _, _, rfl, rfl, .inr ⟨by decide, by decide⟩, _, _, rfl, rfl, _, _, rfl, rfl, _, _, rfl, rfl, by show (0 : Int) < 2147483647; decide, ?_⟩
      exact ⟨_, _, rfl, rfl, Int.emod_nonneg _ (by decide)⟩
    · rintro σ H' ⟨st, x2, rfl, rfl, h0⟩
      refine ⟨_, rfl, p, _, rfl, .inl hs, fun l hl => ?_⟩
      have hs1 : SqL K (upd H' l (.lst (ns.map V.int))) p (ns.map V.int) := Same.seq (Rs.Same.new hl) hs
      refine ⟨_, rfl, _, rfl, p, _, rfl, .inl hs1, _, _, rfl, rfl, .inr ⟨_, rfl, ?_⟩⟩
      have hb : ∀ b : Bool, CMul st (if b = true then 1 else 0) := fun b => by cases b <;> exact .inr ⟨by decide, by decide⟩
      refine ⟨_, _, rfl, rfl, hb _, szle (by show 2 ≤ 100000; decide), fun a ha => ?_⟩
      have nal : l ≠ a := ne_of_none upd_same ha
      have hz : ∀ b : Bool, 0 ≤ st * (if b = true then (1 : Int) else 0) := fun b => by cases b <;> simp [h0]
      refine k a l _ (none_of_but (S := []) (But.same (Rs.Same.new hl)) ha (by simp)) hl ⟨ns, _, upd_same, by rw [upd_ne nal]; exact upd_same, hz _⟩ (Same.trans (Rs.Same.new hl) (Rs.Same.new ha))
abbrev N_law_take : List Str := ["_law_box", "_law_many", "_law_number"]
abbrev P_law_take : List Str := ["_law_box", "_law_many"]
def sp_law_take (K : PySem.W.Frag) : Sp := fun vs H Q E => match vs with
  | [b, m] => ∃ a l n, b = .ref a ∧ m = .int n ∧ 0 < n ∧ n ≤ 1000000000000000000 ∧ Box H a l ∧ ∀ r H', 0 ≤ r → r < n → Box H' a l → But [a, l] H H' → Q (.int r) H'
  | _ => False
def t_law_take (K : PySem.W.Frag) (E : XK) : TS := (tSeq (tIfS (tTest (tOp (xEqE K) (tOpC (rIxL K) (tVar 0) (.int 0)) (tLst tNil))) 
    (tSeq (tAsg (tOpC xMod (tOpC xMul (tOpC (rIxL K) (tVar 0) (.int 1)) (.int 48271)) (.int 2147483647)) (gSubC (tVar 0) (.int 1) rSetL))
    (tRet (tOp xMod (tOpC xDiv (tOpC (rIxL K) (tVar 0) (.int 1)) (.int 7)) (tVar 1)))) tNext)
  (tSeq (tAsg (tOpC (rIxL K) (tOpC (rIxL K) (tVar 0) (.int 0)) (.int 0)) (gName 2))
   (tSeq (tAsg (tOp xDiv (tVar 2) (tVar 1)) (gSubC (tOpC (rIxL K) (tVar 0) (.int 0)) (.int 0) rSetL))
    (tSeq (tIfS (tOr (tTest (tOpC rEq (tOpC (rIxL K) (tOpC (rIxL K) (tVar 0) (.int 0)) (.int 0)) (.int 0))) (tTest (tOpC rEq (tOpC (rIxL K) (tOpC (rIxL K) (tVar 0) (.int 0)) (.int 0)) (.int (-1))))) (tDrop (tBM K "list" rPopAt (tOpC (rIxL K) (tVar 0) (.int 0)) (tConsC (.int 0) tNil))) tNext)
     (tRet (tOp xMod (tVar 2) (tVar 1)))))))
theorem ixN_zero {n : Nat} : ixN (n + 1) 0 = some 0 := by
  unfold ixN
  rw [if_pos (by omega), if_pos (by omega)]
  rfl
theorem seqIx {n j : Nat} (h : j < n) : seqIndex? (j : Int) n = some j := (ixN_seq (ixN_nat h)).1
theorem div_ok {i j : Int} (h : 0 < j) (h2 : j ≤ 1000000000000000000) : CDivW i j := wide_div (b := 60) h (by omega) (by decide) (by decide)
theorem pure_law_take {K : PySem.W.Frag} : ∀ vs H Q E, sp_law_take K vs H Q E → t_law_take K E { nx := fun _ H' => Q .non H', rt := Q } (start N_law_take vs) H := by
  intro vs H Q E h
  match vs, h with
  | [b, m], h =>
    obtain ⟨a, l, n, rfl, rfl, hn, hn2, B, k⟩ := h
    have nal := B.ne
    obtain ⟨ns, st, ha, hl, h0⟩ := B.ex
    refine ⟨_, rfl, ixL ha (j := 0) rfl rfl ⟨sz0, fun p hp => ?_⟩⟩
    have ha1 : upd H p (.lst []) a = _ := un ha hp
    have hl1 : upd H p (.lst []) l = _ := un hl hp
    have s1 : But [a, l] H (upd H p (.lst [])) := But.same (Rs.Same.new hp)
    cases ns with
    | nil =>
      refine eqE hl hp (b := true) rfl ⟨_, rfl, ?_⟩
      refine ⟨_, rfl, ixL ha1 (j := 1) rfl rfl ⟨_, _, rfl, rfl, .inr ⟨by decide, by decide⟩, _, _, rfl, rfl, by show (0 : Int) < 2147483647; decide, ?_⟩⟩
      refine ⟨_, rfl, _, _, _, 1, rfl, rfl, ha1, rfl, ?_⟩
      refine ⟨_, rfl, ixL (j := 1) upd_same rfl rfl ⟨_, _, rfl, rfl, div_ok (by decide) (by decide), _, rfl, _, _, rfl, rfl, hn, ?_⟩⟩
      exact k _ _ (Int.emod_nonneg _ (by omega)) (Int.emod_lt_of_pos _ hn) ⟨[], _, upd_same, by rw [upd_ne nal.symm]; exact hl1, Int.emod_nonneg _ (by decide)⟩ (s1.put (by simp))
    | cons x ns =>
      refine eqE hl hp (b := false) rfl ⟨_, rfl, ?_⟩
      refine ⟨_, rfl, ixL ha1 (j := 0) rfl rfl (ixL hl1 (j := 0) rfl rfl ?_)⟩
      refine ⟨_, rfl, _, rfl, _, _, rfl, rfl, div_ok hn hn2, ?_⟩
      refine ⟨_, rfl, ixL ha1 (j := 0) rfl rfl ⟨_, _, _, 0, rfl, rfl, hl1, ixN_zero, ?_⟩⟩
      have ha2 : upd (upd H p (.lst [])) l (.lst (((x :: ns).map V.int).set 0 (.int (x / n)))) a = _ := up ha1 nal
      have hl2 : upd (upd H p (.lst [])) l (.lst (((x :: ns).map V.int).set 0 (.int (x / n)))) l = some (.lst (((x / n) :: ns).map V.int)) := upd_same
      have s2 : But [a, l] H (upd (upd H p (.lst [])) l (.lst (((x :: ns).map V.int).set 0 (.int (x / n))))) := s1.put (by simp)
      have fin : ∀ H', Box H' a l → But [a, l] H H' → Q (.int (x % n)) H' := fun H' b' k' => k _ _ (Int.emod_nonneg _ (by omega)) (Int.emod_lt_of_pos _ hn) b' k'
      have pop : ∀ D : Ends, (∀ σ H', Box H' a l → But [a, l] H H' → σ = [some (.ref a), some (.int n), some (.int x)] → D.nx σ H') → tDrop (tBM K "list" rPopAt (tOpC (rIxL K) (tVar 0) (.int 0)) (tConsC (.int 0) tNil)) D [some (.ref a), some (.int n), some (.int x)] (upd (upd H p (.lst [])) l (.lst (((x :: ns).map V.int).set 0 (.int (x / n))))) := fun D hD => by
        refine ⟨_, rfl, ixL ha2 (j := 0) rfl rfl ⟨.inl ⟨rfl, _, SqL.of hl2⟩, _, _, _, 0, _, rfl, rfl, hl2, by decide, by decide, seqIx (Nat.zero_lt_succ _), rfl, ?_⟩⟩
        refine hD _ _ ⟨ns, st, up ha2 nal, upd_same, h0⟩ (s2.put (by simp)) rfl
      refine ⟨_, rfl, ixL ha2 (j := 0) rfl rfl (ixL hl2 (j := 0) rfl rfl ⟨rfl, _, rfl, ?_⟩)⟩
      by_cases e : (V.int (x / n)) = .int 0
      · rw [decide_eq_true e]
        refine pop _ fun σ H' b' k' e' => ?_
        subst e'
        exact ⟨_, rfl, _, rfl, _, _, rfl, rfl, hn, fin _ b' k'⟩
      · rw [decide_eq_false e]
        refine ⟨_, rfl, ixL ha2 (j := 0) rfl rfl (ixL hl2 (j := 0) rfl rfl ⟨rfl, _, rfl, ?_⟩)⟩
        by_cases e' : (V.int (x / n)) = .int (-1)
        · rw [decide_eq_true e']
          refine pop _ fun σ H' b' k' e' => ?_
          subst e'
          exact ⟨_, rfl, _, rfl, _, _, rfl, rfl, hn, fin _ b' k'⟩
        · rw [decide_eq_false e']
          exact ⟨_, rfl, _, rfl, _, _, rfl, rfl, hn, fin _ ⟨(x / n) :: ns, st, ha2, hl2, h0⟩ s2⟩
abbrev N_law_kinds : List Str := ["_law_box", "_law_k"]
abbrev P_law_kinds : List Str := ["_law_box"]
def KindsAt : Rel (List Str) := fun H v ks => IsTp H v (ks.map V.str)
def sp_law_kinds (K : PySem.W.Frag) : Sp := fun vs H Q E => match vs with
  | [b] => ∃ a l, b = .ref a ∧ Box H a l ∧ ∀ v ks H', KindsAt H' v ks → GoodKinds ks → Box H' a l → But [a, l] H H' → Q v H'
  | _ => False
def t_law_kinds (K : PySem.W.Frag) (E : XK) : TS := (tRet (tCB1 (xTuple K) (tLc (iRng1 (tCons (tOpD xAdd (.int 1) (tCall (sp_law_take K) [] E (tCons (tVar 0) (tConsC (.int 4) tNil)))) tNil)) (gName 1) tYes (tOp (rIxL K) (tLst (tConsC (.str "number") (tConsC (.str "word") tNil))) (tCall (sp_law_take K) [] E0 (tCons (tVar 0) (tConsC (.int 2) tNil)))) [1])))
theorem pick2 {r : Int} (h0 : 0 ≤ r) (h1 : r < 2) : r = 0 ∨ r = 1 := by omega
theorem pick3 {r : Int} (h0 : 0 ≤ r) (h1 : r < 3) : r = 0 ∨ r = 1 ∨ r = 2 := by omega
theorem pick_two {K : PySem.W.Frag} {H : Hp} {a l : Addr} {x y : V} {Q : VK} {E : XK} {σ : L2.St} {i : Nat} (hσ : σ[i]? = some (some (.ref a))) (B : Box H a l)
    (k : ∀ z H', (z = x ∨ z = y) → Box H' a l → But [a, l] H H' → Q z H') : tOp (rIxL K) (tLst (tConsC x (tConsC y tNil))) (tCall (sp_law_take K) [] E (tCons (tVar i) (tConsC (.int 2) tNil))) σ H Q := by
  refine ⟨szle (by show 2 ≤ 100000; decide), fun p hp => ?_⟩
  obtain ⟨ns, st, ha, hl, h0⟩ := B.ex
  have B1 : Box (upd H p (.lst [x, y])) a l := B.same (Rs.Same.new hp)
  refine ⟨_, hσ, a, l, _, rfl, rfl, by decide, by decide, B1, fun r H1 h0 h1 B2 k1 => ?_⟩
  have hp1 : H1 p = some (.lst [x, y]) := k1 _ _ upd_same (nn (ne_of_none ha hp).symm (ne_of_none hl hp).symm)
  have kk : But [a, l] H H1 := But.trans (But.same (Rs.Same.new hp)) k1
  rcases pick2 h0 h1 with rfl | rfl
  · exact ixL hp1 (j := 0) rfl rfl (k _ _ (.inl rfl) B2 kk)
  · exact ixL hp1 (j := 1) rfl rfl (k _ _ (.inr rfl) B2 kk)
theorem pure_law_kinds {K : PySem.W.Frag} : ∀ vs H Q E, sp_law_kinds K vs H Q E → t_law_kinds K E { nx := fun _ H' => Q .non H', rt := Q } (start N_law_kinds vs) H := by
  intro vs H Q E h
  match vs, h with
  | [b], h =>
    obtain ⟨a, l, rfl, B, k⟩ := h
    refine ⟨_, rfl, a, l, _, rfl, rfl, by decide, by decide, B, fun r H1 h0 h1 B1 k1 => ⟨_, _, rfl, rfl, _, rfl, by omega, by omega, fun D hD => ?_⟩⟩
    obtain ⟨ns, st, ha, hl, _⟩ := B1.ex
    have nDa := (ne_of_none ha hD).symm
    have nDl := (ne_of_none hl hD).symm
    refine lc_range (lo := 0) (n := (1 + r).toNat) (fun i H' => ∃ ks : List Str, H' D = some (.lst (ks.map V.str)) ∧ ks.length = i ∧ (∀ x ∈ ks, x = "number" ∨ x = "word") ∧ Box H' a l ∧ But [a, l] H H')
      ⟨[], upd_same, rfl, by simp, B1.same (Rs.Same.new hD), k1.new hD⟩ ?_ ?_
    · rintro i H' hi ⟨ks, hd, hlen, hall, B', k'⟩
      refine ⟨rfl, ?_⟩
      refine lc_yes (pick_two (i := 0) rfl B' fun z H2 hz B2 k2 => ?_)
      have hd2 := k2 _ _ hd (nn nDa nDl)
      have fin : ∀ s : Str, z = .str s → (s = "number" ∨ s = "word") → ∃ acc, H2 D = some (.lst acc) ∧ acc.length < sizeLine ∧ ∃ ks : List Str, upd H2 D (.lst (acc ++ [z])) D = some (.lst (ks.map V.str)) ∧ ks.length = i + 1 ∧ (∀ x ∈ ks, x = "number" ∨ x = "word") ∧ Box (upd H2 D (.lst (acc ++ [z]))) a l ∧ But [a, l] H (upd H2 D (.lst (acc ++ [z]))) := fun s es hs => by
        subst es
        have hz0 : H D = none := none_of_but k1 hD (nn nDa nDl)
        exact ⟨_, hd2, szlt (by rw [List.length_map]; omega), ks ++ [s], by rw [upd_same, List.map_append] <;> rfl, by simp [hlen], fun x hx => (List.mem_append.mp hx).elim (hall x) fun hx => by rw [List.mem_singleton.mp hx]; exact hs, B2.keep (fun o e => up e nDa.symm) (fun o e => up e nDl.symm), (k'.trans k2).mut hz0⟩
      rcases hz with rfl | rfl
      · exact fin _ rfl (.inl rfl)
      · exact fin _ rfl (.inr rfl)
    · rintro H' ⟨ks, hd, hlen, hall, B', k'⟩
      refine ⟨_, _, rfl, .inl ⟨SqL.of hd, fun t ht => ?_⟩⟩
      exact k _ ks _ ⟨t, rfl, upd_same⟩ ⟨by omega, by omega, hall⟩ (B'.same (Rs.Same.new ht)) (k'.new ht)
abbrev N_law_order : List Str := ["_law_box", "_law_kinds_here", "_law_left", "_law_found", "_law_turn"]
abbrev P_law_order : List Str := ["_law_box", "_law_kinds_here"]
def sp_law_order (K : PySem.W.Frag) : Sp := fun vs H Q E => match vs with
  | [b, kv] => ∃ a l ks, b = .ref a ∧ Box H a l ∧ KindsAt H kv ks ∧ GoodKinds ks ∧ ∀ f o H', H f = none → Lst TurnAt H' f o → GoodOrd ks o → Box H' a l → But [a, l] H H' → Q (.ref f) H'
  | _ => False
def t_law_order (K : PySem.W.Frag) (E : XK) : TS := (tSeq (tAsg (tLstRg (tRg1 (tCB1 (xLen K) (tVar 1)))) (gName 2))
  (tSeq (tAsg (tLst tNil) (gName 3))
   (tSeq (tFor (iRng1 (tCons (tOpD xAdd (.int 1) (tCall (sp_law_take K) [] E (tCons (tVar 0) (tCons (tCB1 (xLen K) (tVar 1)) tNil)))) tNil)) (gName 4) (tDrop (tBM K "list" rAppend (tVar 3) (tCons (tTup (tCons (tBM K "list" rPopAt (tVar 2) (tCons (tCall (sp_law_take K) [] E (tCons (tVar 0) (tCons (tCB1 (xLen K) (tVar 2)) tNil))) tNil)) (tCons (tOp (rIxL K) (tLst (tConsC (.str "up") (tConsC (.str "down") tNil))) (tCall (sp_law_take K) [] E (tCons (tVar 0) (tConsC (.int 2) tNil)))) tNil))) tNil))))
    (tRet (tVar 3)))))
theorem map_erase {α β : Type} (f : α → β) : ∀ (l : List α) (i : Nat), (l.map f).eraseIdx i = (l.eraseIdx i).map f
  | [], _ => rfl
  | _ :: _, 0 => rfl
  | a :: l, i + 1 => by simpa using map_erase f l i
theorem take_append_erase {α : Type} : ∀ {l : List α} {i : Nat} {x : α}, l[i]? = some x → l.Perm (x :: l.eraseIdx i)
  | [], _, _, h => by simp at h
  | a :: l, 0, x, h => by simp at h; subst h; exact .refl _
  | a :: l, i + 1, x, h => by
    have ih := take_append_erase (l := l) (i := i) (x := x) (by simpa using h)
    exact (ih.cons a).trans (List.Perm.swap x a _)
theorem pure_law_order {K : PySem.W.Frag} : ∀ vs H Q E, sp_law_order K vs H Q E → t_law_order K E { nx := fun _ H' => Q .non H', rt := Q } (start N_law_order vs) H := by
  intro vs H Q E h
  match vs, h with
  | [b, kv], h =>
    obtain ⟨a, l, ks, rfl, B, hk, gk, k⟩ := h
    obtain ⟨ns, st, ha, hl, _⟩ := B.ex
    have g1 := gk.pos
    have g4 := gk.le
    obtain ⟨kt, rfl, hkt⟩ := hk
    refine ⟨_, rfl, _, _, rfl, .inr (SqT.of hkt), _, rfl, RgOk.of_le (by decide) (by rw [List.length_map]; omega) (by decide) (by omega), fun q hq => ?_⟩
    refine ⟨sz0, fun f hf => ?_⟩
    have B0 : Box (upd (upd H q (.lst (rgV 0 ((ks.map V.str).length : Nat)))) f (.lst [])) a l := (B.same (Rs.Same.new hq)).same (Rs.Same.new hf)
    have nqf : q ≠ f := ne_of_none upd_same hf
    have hf0 : H f = none := none_of_but (S := []) (But.same (Rs.Same.new hq)) hf (by simp)
    have qa := (ne_of_none ha hq).symm
    have ql := (ne_of_none hl hq).symm
    have fa := (ne_of_none ha hf0).symm
    have fl := (ne_of_none hl hf0).symm
    have k0 : But [a, l] H (upd (upd H q (.lst (rgV 0 ((ks.map V.str).length : Nat)))) f (.lst [])) := (But.same (Rs.Same.new hq)).new hf
    have kt0 := k0 _ _ hkt (nn (ne_of hkt ha (by intro z; cases z)) (ne_of hkt hl (by intro z; cases z)))
    refine ⟨_, rfl, _, rfl, _, _, rfl, .inr (SqT.of kt0), a, l, _, rfl, rfl, by rw [List.length_map]; omega, by rw [List.length_map]; omega, B0, fun r H1 h0 h1 B1 k1 => ?_⟩
    rw [List.length_map] at h1
    refine ⟨_, _, rfl, rfl, _, rfl, by omega, by omega, ?_⟩
    refine for_range (lo := 0) (n := (1 + r).toNat) (fun i σ H' => ∃ (ls : List Nat) (o : Ord) (x4 : Option V), σ = [some (.ref a), some (.ref kt), some (.ref q), some (.ref f), x4] ∧ H' q = some (.lst (ls.map fun (n : Nat) => V.int (n : Int))) ∧ Lst TurnAt H' f o ∧
      Box H' a l ∧ But [a, l] H H' ∧ (o.map (·.1) ++ ls).Perm (List.range ks.length) ∧ o.length = i) ?_ ?_ ?_
    · refine ⟨List.range ks.length, [], none, rfl, ?_, ⟨[], k1 _ _ upd_same (nn fa fl), .nil⟩, B1, k0.trans k1, by simp, rfl⟩
      rw [k1 q _ (un upd_same hf) (nn qa ql)]
      unfold rgV
      rw [List.length_map]
      simp
    · rintro i σ H' hi ⟨ls, o, x4, rfl, hq', ⟨tv, hf', ht'⟩, B', k', hp, hlen⟩
      have hll : ls.length + i = ks.length := by
        have e := hp.length_eq
        simp at e
        omega
      refine ⟨_, rfl, .inl ⟨rfl, _, SqL.of hf'⟩, _, rfl, .inl ⟨rfl, _, SqL.of hq'⟩, _, rfl, _, rfl, _, _, rfl, .inl (SqL.of hq'), a, l, _, rfl, rfl, by rw [List.length_map]; omega, by rw [List.length_map]; omega, B', fun r2 H2 h20 h21 B2 k2 => ?_⟩
      rw [List.length_map] at h21
      have hq2 := k2 _ _ hq' (nn qa ql)
      have hf2 := k2 _ _ hf' (nn fa fl)
      obtain ⟨j, rfl⟩ : ∃ j : Nat, r2 = (j : Int) := ⟨r2.toNat, by omega⟩
      have hj : j < ls.length := by omega
      refine ⟨_, _, _, j, _, rfl, rfl, hq2, by omega, by omega, seqIx (by rw [List.length_map]; exact hj), by rw [List.getElem?_map, List.getElem?_eq_getElem hj]; rfl, ?_⟩
      have hf3 : upd H2 q (.lst ((ls.map fun (n : Nat) => V.int (n : Int)).eraseIdx j)) f = _ := up hf2 nqf.symm
      have B3 : Box (upd H2 q (.lst ((ls.map fun (n : Nat) => V.int (n : Int)).eraseIdx j))) a l := B2.keep (fun o e => up e qa.symm) (fun o e => up e ql.symm)
      have k3 : But [a, l] H (upd H2 q (.lst ((ls.map fun (n : Nat) => V.int (n : Int)).eraseIdx j))) := (k'.trans k2).mut hq
      have t3 : TupLe H' (upd H2 q (.lst ((ls.map fun (n : Nat) => V.int (n : Int)).eraseIdx j))) := (B'.tup k2).list hq2
      refine pick_two (i := 0) rfl B3 fun z H4 hz B4 k4 => ?_
      have hf4 := k4 _ _ hf3 (nn fa fl)
      have hq4 := k4 _ _ upd_same (nn qa ql)
      have t4 := t3.trans (B3.tup k4)
      refine ⟨szle (by show 2 ≤ 100000; decide), fun t ht => ?_⟩
      have nft := ne_of_none hf4 ht
      have nqt := ne_of_none hq4 ht
      have ol : o.length ≤ 4 := by omega
      refine ⟨_, _, _, rfl, rfl, un hf4 ht, szlt (by have := ht'.length; omega), ?_⟩
      obtain ⟨w, rfl⟩ : ∃ w : Bool, z = .str (wayS w) := by
        rcases hz with rfl | rfl
        · exact ⟨true, rfl⟩
        · exact ⟨false, rfl⟩
      refine ⟨ls.eraseIdx j, o ++ [(ls[j], w)], _, rfl, ?_, ⟨_, upd_same, ?_⟩, (B4.same (Rs.Same.new ht)).keep (fun o e => up e fa.symm) (fun o e => up e fl.symm), ((k3.trans k4).new ht).mut hf0, ?_, by simp [hlen]⟩
      · rw [upd_ne nqf, un hq4 ht, map_erase]
      · refine P2.app (Paired.tl TurnAt.st ((t4.trans (TupLe.new ht)).list (un hf4 ht)) ht') (P2.one ⟨t, rfl, ?_⟩)
        rw [upd_ne nft.symm]
        exact upd_same
      · refine List.Perm.trans ?_ hp
        rw [List.map_append, List.append_assoc]
        exact List.Perm.append_left _ (take_append_erase (List.getElem?_eq_getElem hj)).symm
    · rintro σ H' ⟨ls, o, x4, rfl, hq', hf', B', k', hp, hlen⟩
      refine ⟨_, rfl, k f o H' hf0 hf' ⟨fun e => ?_, fun t ht => ?_, ?_⟩ B' k'⟩
      · subst e
        simp at hlen
        omega
      · have : t.1 ∈ List.range ks.length := hp.mem_iff.mp (List.mem_append_left _ (List.mem_map_of_mem ht))
        exact List.mem_range.mp this
      · exact (List.nodup_append.mp (hp.nodup_iff.mpr List.nodup_range)).1
abbrev N_law_value : List Str := ["_law_box", "_law_kind", "_law_many", "_law_letters", "_law_k"]
abbrev P_law_value : List Str := ["_law_box", "_law_kind"]
def sp_law_value (K : PySem.W.Frag) : Sp := fun vs H Q E => match vs with
  | [b, kv] => ∃ a l kd, b = .ref a ∧ kv = .str kd ∧ (kd = "number" ∨ kd = "word") ∧ Box H a l ∧ ∀ x H', isValue kd x = true → Box H' a l → But [a, l] H H' → Q (kV x) H'
  | _ => False
def t_law_value (K : PySem.W.Frag) (E : XK) : TS := (tSeq (tIfS (tTest (tOpC rEq (tVar 1) (.str "number"))) (tRet (tOp (rIxL K) (tLst (tCons (tCall (sp_law_take K) [] E (tCons (tVar 0) (tConsC (.int 4) tNil))) (tCons (tOpC xSub (tCall (sp_law_take K) [] E (tCons (tVar 0) (tConsC (.int 1999) tNil))) (.int 999)) (tCons (tOp (rIxL K) (tLst (tConsC (.int (-999)) (tConsC (.int 999) (tConsC (.int 0) tNil)))) (tCall (sp_law_take K) [] E (tCons (tVar 0) (tConsC (.int 3) tNil)))) tNil)))) (tCall (sp_law_take K) [] E (tCons (tVar 0) (tConsC (.int 3) tNil))))) tNext)
  (tSeq (tAsg (tCall (sp_law_take K) [] E (tCons (tVar 0) (tCons (tOp (rIxL K) (tLst (tConsC (.int 3) (tConsC (.int 7) tNil))) (tCall (sp_law_take K) [] E (tCons (tVar 0) (tConsC (.int 2) tNil)))) tNil))) (gName 2))
   (tSeq (tAsg (tOp (rIxL K) (tLst (tConsC (.str "abz") (tConsC (.str "abcdefghijklmnopqrstuvwxyz") tNil))) (tCall (sp_law_take K) [] E (tCons (tVar 0) (tConsC (.int 2) tNil)))) (gName 3))
    (tRet (tM1 (xJoin K) (tC (.str "")) (tLc (iRng1 (tCons (tVar 2) tNil)) (gName 4) tYes (tOp rIxS (tVar 3) (tCall (sp_law_take K) [] E0 (tCons (tVar 0) (tCons (tCB1 xLenS (tVar 3)) tNil)))) [4]))))))
theorem joinL_nil : ∀ ps : List (List Nat), TL.joinL [] ps = ps.flatten
  | [] => rfl
  | [p] => by simp [TL.joinL]
  | p :: q :: r => by
    show p ++ ([] ++ TL.joinL [] (q :: r)) = _
    rw [joinL_nil (q :: r)]
    simp
theorem join_signs (cs : List Nat) : Txt.join "" (cs.map fun c => (⟨#[c]⟩ : Str)) = ⟨cs.toArray⟩ := by
  apply str_ext
  have e := TL.tl_join "" (cs.map fun c => (⟨#[c]⟩ : Str))
  rw [TL.join_eq]
  show TL.tl (Str.join "" (cs.map fun c => (⟨#[c]⟩ : Str))) = cs
  rw [e]
  have e2 : TL.tl ("" : Str) = [] := by decide +kernel
  rw [e2, joinL_nil, List.map_map]
  clear e
  induction cs with
  | nil => rfl
  | cons c cs ih =>
    rw [List.map_cons, List.flatten_cons, ih]
    rfl
theorem sign_map (cs : List Nat) : (cs.map fun c => V.str ⟨#[c]⟩) = (cs.map fun c => (⟨#[c]⟩ : Str)).map V.str := by rw [List.map_map] <;> rfl
theorem sum_ones (cs : List Nat) : ((cs.map fun c => (⟨#[c]⟩ : Str)).map (·.length)).sum = cs.length := by
  induction cs with
  | nil => rfl
  | cons c cs ih => rw [List.map_cons, List.map_cons, List.sum_cons, ih, List.length_cons]; show 1 + _ = _; omega
theorem abz_letters : ∀ c ∈ ("abz" : Str).cps.toList, c ∈ letters := by decide +kernel
theorem pure_law_value {K : PySem.W.Frag} : ∀ vs H Q E, sp_law_value K vs H Q E → t_law_value K E { nx := fun _ H' => Q .non H', rt := Q } (start N_law_value vs) H := by
  intro vs H Q E h
  match vs, h with
  | [b, kv], h =>
    obtain ⟨a, l, kd, rfl, rfl, hkd, B, k⟩ := h
    obtain ⟨ns, st, ha, hl, _⟩ := B.ex
    refine ⟨_, rfl, rfl, _, rfl, ?_⟩
    rcases hkd with rfl | rfl
    · -- a number
      have e1 : decide (V.str "number" = V.str "number") = true := decide_eq_true rfl
      rw [e1]
      refine ⟨_, rfl, a, l, _, rfl, rfl, by decide, by decide, B, fun r1 H1 a0 a1 B1 k1 => ?_⟩
      refine ⟨_, rfl, a, l, _, rfl, rfl, by decide, by decide, B1, fun r2 H2 b0 b1 B2 k2 => ⟨_, _, rfl, rfl, ?_⟩⟩
      refine ⟨szle (by show 3 ≤ 100000; decide), fun p hp => ?_⟩
      have B2' := B2.same (Rs.Same.new (o := .lst [.int (-999), .int 999, .int 0]) hp)
      refine ⟨_, rfl, a, l, _, rfl, rfl, by decide, by decide, B2', fun r3 H3 c0 c1 B3 k3 => ?_⟩
      obtain ⟨_, _, ha2, hl2, _⟩ := B2.ex
      have hp3 := k3 _ _ upd_same (nn (ne_of_none ha2 hp).symm (ne_of_none hl2 hp).symm)
      have k13 : But [a, l] H H3 := (k1.trans k2).trans ((But.same (Rs.Same.new hp)).trans k3)
      have last : ∀ z : Int, -999 ≤ z → z ≤ 999 → ∀ x y : Int, r1 = x → r2 - 999 = y → 3 ≤ sizeLine ∧ ∀ p', H3 p' = none → (tCall (sp_law_take K) [] E (tCons (tVar 0) (tConsC (.int 3) tNil))) [some (.ref a), some (.str "number"), none, none, none] (upd H3 p' (.lst [.int x, .int y, .int z])) fun y H4 => rIxL K (.ref p') y H4 Q := fun z z0 z1 x y ex ey => by
        refine ⟨szle (by show 3 ≤ 100000; decide), fun p' hp' => ?_⟩
        have B3' := B3.same (Rs.Same.new (o := .lst [.int x, .int y, .int z]) hp')
        refine ⟨_, rfl, a, l, _, rfl, rfl, by decide, by decide, B3', fun r4 H4 d0 d1 B4 k4 => ?_⟩
        obtain ⟨_, _, ha3, hl3, _⟩ := B3.ex
        have hp4 := k4 _ _ upd_same (nn (ne_of_none ha3 hp').symm (ne_of_none hl3 hp').symm)
        have k14 : But [a, l] H H4 := k13.trans ((But.same (Rs.Same.new hp')).trans k4)
        have fin : ∀ i : Int, -999 ≤ i → i ≤ 999 → Q (.int i) H4 := fun i i0 i1 => k (.inl i) H4 (by simp [isValue, i0, i1]; decide +kernel) B4 k14
        rcases pick3 d0 d1 with rfl | rfl | rfl
        · exact ixL hp4 (j := 0) rfl rfl (fin _ (by omega) (by omega))
        · exact ixL hp4 (j := 1) rfl rfl (fin _ (by omega) (by omega))
        · exact ixL hp4 (j := 2) rfl rfl (fin _ z0 z1)
      rcases pick3 c0 c1 with rfl | rfl | rfl
      · exact ixL hp3 (j := 0) rfl rfl (last _ (by decide) (by decide) _ _ rfl rfl)
      · exact ixL hp3 (j := 1) rfl rfl (last _ (by decide) (by decide) _ _ rfl rfl)
      · exact ixL hp3 (j := 2) rfl rfl (last _ (by decide) (by decide) _ _ rfl rfl)
    · -- a word
      have e1 : decide (V.str "word" = V.str "number") = false := by decide +kernel
      rw [e1]
      refine ⟨_, rfl, pick_two (i := 0) rfl B fun z H1 hz B1 k1 => ?_⟩
      have one : ∀ m : Int, 0 < m → m ≤ 7 → z = .int m → (tNil (([some (.ref a), some (.str "word"), none, none, none] : List (Option V))) H1 fun xs H2 => sp_law_take K (.ref a :: z :: xs) H2 (fun v H3 => (tSeq (tAsg (tOp (rIxL K) (tLst (tConsC (.str "abz") (tConsC (.str "abcdefghijklmnopqrstuvwxyz") tNil))) (tCall (sp_law_take K) [] E (tCons (tVar 0) (tConsC (.int 2) tNil)))) (gName 3))
          (tRet (tM1 (xJoin K) (tC (.str "")) (tLc (iRng1 (tCons (tVar 2) tNil)) (gName 4) tYes (tOp rIxS (tVar 3) (tCall (sp_law_take K) [] E0 (tCons (tVar 0) (tCons (tCB xLenS (tCons (tVar 3) tNil)) tNil)))) [4])))) { nx := fun _ H' => Q .non H', rt := Q } ([some (.ref a), some (.str "word"), some v, none, none]) H3) E) := fun m m0 m7 em => by
        subst em
        refine ⟨a, l, m, rfl, rfl, m0, by omega, B1, fun n H2 n0 n1 B2 k2 => ?_⟩
        refine pick_two (i := 0) rfl B2 fun t H3 ht B3 k3 => ?_
        have k03 : But [a, l] H H3 := (k1.trans k2).trans k3
        obtain ⟨ls, el, hpos, hsz, hlet⟩ : ∃ ls : Str, t = .str ls ∧ 0 < ls.length ∧ ls.length ≤ 26 ∧ ∀ c ∈ ls.cps.toList, c ∈ letters := by
          rcases ht with rfl | rfl
          · exact ⟨_, rfl, by decide +kernel, by decide +kernel, abz_letters⟩
          · exact ⟨_, rfl, by decide +kernel, by decide +kernel, fun c h => h⟩
        subst el
        refine ⟨⟨_, rfl⟩, _, rfl, _, rfl, by omega, by omega, fun D hD => ?_⟩
        obtain ⟨_, _, ha3, hl3, _⟩ := B3.ex
        have nDa := (ne_of_none ha3 hD).symm
        have nDl := (ne_of_none hl3 hD).symm
        have hD0 : H D = none := none_of_but k03 hD (nn nDa nDl)
        refine lc_range (lo := 0) (n := n.toNat) (fun i H' => ∃ cs : List Nat, H' D = some (.lst (cs.map fun c => V.str ⟨#[c]⟩)) ∧ cs.length = i ∧ (∀ c ∈ cs, c ∈ letters) ∧ Box H' a l ∧ But [a, l] H H')
          ⟨[], upd_same, rfl, by simp, B3.same (Rs.Same.new hD), k03.new hD⟩ ?_ ?_
        · rintro i H' hi ⟨cs, hd, hlen, hall, B', k'⟩
          refine ⟨rfl, lc_yes ?_⟩
          refine ⟨_, rfl, _, rfl, _, rfl, _, rfl, szle (by omega), a, l, _, rfl, rfl, by omega, by omega, B', fun r H2 r0 r1 B2 k2 => ?_⟩
          have hd2 := k2 _ _ hd (nn nDa nDl)
          obtain ⟨j, rfl⟩ : ∃ j : Nat, r = (j : Int) := ⟨r.toNat, by omega⟩
          have hj : j < ls.cps.toList.length := by
            have : ls.length = ls.cps.toList.length := by simp [Str.length]
            omega
          refine ⟨_, _, _, rfl, rfl, szle (by omega), atI_nat (List.getElem?_eq_getElem hj), _, hd2, szlt (by rw [List.length_map]; omega), cs ++ [ls.cps.toList[j]], ?_, by simp [hlen], fun c hc => ?_, B2.keep (fun o e => up e nDa.symm) (fun o e => up e nDl.symm), (k'.trans k2).mut hD0⟩
          · rw [upd_same, List.map_append] <;> rfl
          · rcases List.mem_append.mp hc with h | h
            · exact hall c h
            · rw [List.mem_singleton.mp h]
              exact hlet _ (List.getElem_mem hj)
        · rintro H' ⟨cs, hd, hlen, hall, B', k'⟩
          refine ⟨_, D, (cs.map fun c => (⟨#[c]⟩ : Str)), rfl, rfl, .inl (SqL.of (by rw [hd, sign_map])), ?_, ?_⟩
          · rw [sum_ones]
            have e0 : ("" : Str).length = 0 := by decide +kernel
            rw [e0]
            omega
          · rw [join_signs]
            refine k (.inr ⟨cs.toArray⟩) H' ?_ B' k'
            simp only [isValue, Bool.and_eq_true, decide_eq_true_eq, List.all_eq_true]
            refine ⟨trivial, ?_, fun c hc => hall c (by simpa using hc)⟩
            show cs.toArray.size ≤ 6
            rw [List.size_toArray]
            omega
      rcases hz with rfl | rfl
      · exact one 3 (by decide) (by decide) rfl
      · exact one 7 (by decide) (by decide) rfl
abbrev N_law_ahead : List Str := ["_law_order_here", "_law_one", "_law_other", "_law_column", "_law_way", "_law_mine", "_law_theirs"]
abbrev P_law_ahead : List Str := ["_law_order_here", "_law_one", "_law_other"]
def sp_law_ahead (K : PySem.W.Frag) : Sp := sp_is_before K
def t_law_ahead (K : PySem.W.Frag) (E : XK) : TS := (tSeq (tFor (iList K (tVar 0)) (gTup K 2 (gCons (gName 3) (gCons (gName 4) gNil))) 
    (tSeq (tPar 5 6 (tCons (tOp (rIxT K) (tOpC (rIxT K) (tVar 1) (.int 1)) (tVar 3)) (tCons (tOp (rIxT K) (tOpC (rIxT K) (tVar 2) (.int 1)) (tVar 3)) tNil)))
    (tIfS (tTest (tOp rNe (tVar 5) (tVar 6))) (tRet (tIf (tTest (tOpC rEq (tVar 4) (.str "up"))) (tOp xLtV (tVar 5) (tVar 6)) (tOp xGtV (tVar 5) (tVar 6)))) tNext)))
  (tRet (tOp xLt (tOpC (rIxT K) (tVar 1) (.int 0)) (tOpC (rIxT K) (tVar 2) (.int 0)))))
theorem pure_law_ahead {K : PySem.W.Frag} : ∀ vs H Q E, sp_law_ahead K vs H Q E → t_law_ahead K E { nx := fun _ H' => Q .non H', rt := Q } (start N_law_ahead vs) H := by
  intro vs H Q E h
  unfold sp_law_ahead at h
  match vs, h with
  | [vo, a, b], h =>
    obtain ⟨o, p, q, ⟨lo, rfl, ts, hl, hts⟩, ⟨w1, ha, hr1⟩, ⟨w2, hb, hr2⟩, hc, k⟩ := h
    refine ⟨_, rfl, lo, rfl, ⟨_, SqL.of hl⟩, for_list (K := K) (a := lo) (xs := ts) (fun i σ H' => ∃ x3 x4 x5 x6, σ = [some (.ref lo), some a, some b, x3, x4, x5, x6] ∧ H' = H ∧ before o p q = before (o.drop i) p q) ⟨none, none, none, none, rfl, rfl, rfl⟩ ?_ ?_ ?_⟩
    · rintro i σ H' _ ⟨_, _, _, _, _, rfl, _⟩
      exact SqL.of hl
    · rintro i v σ H' hi ⟨x3, x4, x5, x6, rfl, rfl, he⟩
      obtain ⟨t, ht, at_, rfl, et⟩ := P2.get hts hi
      have hd : o.drop i = t :: o.drop (i + 1) := drop_cons ht
      obtain ⟨c1, c2, c3⟩ := hc t (List.mem_of_getElem? ht)
      refine ⟨at_, _, rfl, SqT.of et, rfl, _, _, rfl, _, _, rfl, rfl, ?_⟩
      refine ⟨_, rfl, ixT ha (j := 1) rfl rfl ⟨_, rfl, ixT hr1 (j := t.1) rfl (by rw [List.getElem?_map, kcol_get c1]; rfl) ⟨_, rfl, ixT hb (j := 1) rfl rfl ⟨_, rfl, ixT hr2 (j := t.1) rfl (by rw [List.getElem?_map, kcol_get c2]; rfl) ⟨_, _, rfl, _, rfl, _, rfl, kV_scal c3, _, rfl, ?_⟩⟩⟩⟩⟩
      rw [kV_dec]
      rw [hd, before_cons] at he
      by_cases e : kcol p.2 t.1 = kcol q.2 t.1
      · rw [decide_eq_true e]
        rw [if_pos e] at he
        exact ⟨_, _, _, _, rfl, rfl, he⟩
      · rw [decide_eq_false e]
        rw [if_neg e] at he
        refine ⟨_, rfl, rfl, _, rfl, ?_⟩
        rw [way_eq]
        rw [he] at k
        cases hw : t.2 with
        | true =>
          rw [hw] at k
          refine ⟨_, rfl, _, rfl, ltV_go c3 ?_⟩
          have z : (keyLt (kcol p.2 t.1) (kcol q.2 t.1) == true) = keyLt (kcol p.2 t.1) (kcol q.2 t.1) := by cases keyLt (kcol p.2 t.1) (kcol q.2 t.1) <;> rfl
          rw [z] at k
          exact k
        | false =>
          rw [hw] at k
          refine ⟨_, rfl, _, rfl, gtV_go c3 ?_⟩
          rw [keyLt_tot c3 e]
          have z : (keyLt (kcol p.2 t.1) (kcol q.2 t.1) == false) = !keyLt (kcol p.2 t.1) (kcol q.2 t.1) := by cases keyLt (kcol p.2 t.1) (kcol q.2 t.1) <;> rfl
          rw [z] at k
          exact k
    · rintro σ H' ⟨x3, x4, x5, x6, rfl, rfl, he⟩
      have e0 : before o p q = decide (p.1 < q.1) := by rw [he, List.drop_of_length_le (by rw [← hts.length]; exact Nat.le_refl _)]; rfl
      rw [e0] at k
      exact ⟨_, rfl, ixT ha (j := 0) rfl rfl ⟨_, rfl, ixT hb (j := 0) rfl rfl ⟨_, _, rfl, rfl, k⟩⟩⟩
abbrev N_law_rows : List Str := ["_law_box", "_law_kinds_here", "_law_most", "_law_found", "_law_way", "_law_turn", "_law_row", "_law_kind"]
abbrev P_law_rows : List Str := ["_law_box", "_law_kinds_here", "_law_most"]
def sp_law_rows (K : PySem.W.Frag) : Sp := fun vs H Q E => match vs with
  | [b, kv, m] => ∃ a l ks n, b = .ref a ∧ m = .int n ∧ 0 ≤ n ∧ n ≤ 1000 ∧ Box H a l ∧ KindsAt H kv ks ∧ GoodKinds ks ∧
    ∀ f rows H', H f = none → Lst RowAt H' f rows → (∀ r ∈ rows, isRow ks r = true) → (rows.length : Int) ≤ n → Box H' a l → But [a, l] H H' → Q (.ref f) H'
  | _ => False
def t_law_rows (K : PySem.W.Frag) (E : XK) : TS := (tSeq (tAsg (tLst tNil) (gName 3))
  (tSeq (tAsg (tCall (sp_law_take K) [] E (tCons (tVar 0) (tConsC (.int 4) tNil))) (gName 4))
   (tSeq (tFor (iRng1 (tCons (tCall (sp_law_take K) [] E (tCons (tVar 0) (tCons (tOpC xAdd (tVar 2) (.int 1)) tNil))) tNil)) (gName 5) 
      (tSeq (tAsg (tLc (iTup K (tVar 1)) (gName 7) tYes (tCall (sp_law_value K) [] E0 (tCons (tVar 0) (tCons (tVar 7) tNil))) [7]) (gName 6))
      (tSeq (tIfS (tAnd (tTest (tOp (xNeE K) (tVar 3) (tLst tNil))) (tTest (tOpC rEq (tCall (sp_law_take K) [] E (tCons (tVar 0) (tConsC (.int 3) tNil))) (.int 0)))) (tAsg (tCB1 (xList K) (tOp (rIxL K) (tVar 3) (tCall (sp_law_take K) [] E (tCons (tVar 0) (tCons (tCB1 (xLen K) (tVar 3)) tNil))))) (gName 6)) tNext)
       (tSeq (tIfS (tAnd (tTest (tOp (xNeE K) (tVar 3) (tLst tNil))) (tAnd (tTest (tOpC xLt (tVar 4) (.int 2))) (tTest (tOpC rEq (tOpC (rIxT K) (tVar 1) (.int 0)) (.str "number"))))) (tAsg (tCB xMax2 (tConsC (.int (-999)) (tCons (tCB xMin2 (tConsC (.int 999) (tCons (tOp xAdd (tOpC (rIxT K) (tOpC (rIxL K) (tVar 3) (.int (-1))) (.int 0)) (tOp xMul (tOp (rIxL K) (tLst (tConsC (.int 1) (tConsC (.int (-1)) tNil))) (tVar 4)) (tCall (sp_law_take K) [] E (tCons (tVar 0) (tConsC (.int 3) tNil))))) tNil))) tNil))) (gSubC (tVar 6) (.int 0) rSetL)) tNext)
        (tDrop (tBM K "list" rAppend (tVar 3) (tCons (tCB1 (xTuple K) (tVar 6)) tNil)))))))
    (tRet (tVar 3)))))
theorem isRow_of {ks : List Str} {r : Row} (h1 : r.length = ks.length) (h2 : ∀ i, i < ks.length → isValue (ks.getD i "") (kcol r i) = true) : isRow ks r = true := by
  unfold isRow
  simp only [Bool.and_eq_true, decide_eq_true_eq, List.all_eq_true, List.mem_range]
  exact ⟨h1, h2⟩
theorem kcol_append {r : Row} {x : Key} {i : Nat} : kcol (r ++ [x]) i = if i < r.length then kcol r i else if i = r.length then x else .inl 0 := by
  unfold kcol
  rw [List.getD_eq_getElem?_getD, List.getD_eq_getElem?_getD, List.getElem?_append]
  by_cases h : i < r.length
  · rw [if_pos h, if_pos h]
  · rw [if_neg h, if_neg h]
    by_cases e : i = r.length
    · subst e
      simp
    · rw [if_neg e, List.getElem?_eq_none (by simp; omega)]
      rfl
theorem kcol_set {r : Row} {x : Key} (h : 0 < r.length) (i : Nat) : kcol (r.set 0 x) i = if i = 0 then x else kcol r i := by
  unfold kcol
  rw [List.getD_eq_getElem?_getD, List.getD_eq_getElem?_getD]
  by_cases e : i = 0
  · subst e
    rw [if_pos rfl, List.getElem?_set_self h]
    rfl
  · rw [if_neg e, List.getElem?_set_ne (by omega)]
theorem pure_law_rows {K : PySem.W.Frag} : ∀ vs H Q E, sp_law_rows K vs H Q E → t_law_rows K E { nx := fun _ H' => Q .non H', rt := Q } (start N_law_rows vs) H := by
  intro vs H Q E h
  match vs, h with
  | [b, kv, m], h =>
    obtain ⟨a, l, ks, n, rfl, rfl, hn0, hn, B, ⟨kt, rfl, hkt⟩, gk, k⟩ := h
    obtain ⟨_, _, ha, hl, _⟩ := B.ex
    have g1 := gk.pos
    have g4 := gk.le
    refine ⟨sz0, fun f hf => ?_⟩
    have fa := (ne_of_none ha hf).symm
    have fl := (ne_of_none hl hf).symm
    refine ⟨_, rfl, a, l, _, rfl, rfl, by decide, by decide, B.same (Rs.Same.new hf), fun way H1 w0 w4 B1 k1 => ?_⟩
    refine ⟨_, rfl, _, rfl, _, _, rfl, rfl, a, l, _, rfl, rfl, by omega, by omega, B1, fun many H2 m0 m1 B2 k2 => ⟨_, rfl, by omega, by omega, ?_⟩⟩
    refine for_range (lo := 0) (n := many.toNat) (fun i σ H' => ∃ (rows : List Row) (x5 x6 : Option V), σ = [some (.ref a), some (.ref kt), some (.int n), some (.ref f), some (.int way), x5, x6, none] ∧ Lst RowAt H' f rows ∧ (∀ r ∈ rows, isRow ks r = true) ∧ rows.length = i ∧ Box H' a l ∧ But [a, l] H H') ?_ ?_ ?_
    · exact ⟨[], none, none, rfl, ⟨[], k2 _ _ (k1 _ _ upd_same (nn fa fl)) (nn fa fl), .nil⟩, by simp, rfl, B2, (But.same (Rs.Same.new hf)).trans (k1.trans k2)⟩
    · rintro i σ H' hi ⟨rows, x5, x6, rfl, ⟨fv, hf', hrows⟩, hall, hlen, B', k'⟩
      have flen := hrows.length
      -- the row: a comprehension
      have kt' : ∀ {H'' : Hp}, But [a, l] H H'' → H'' kt = some (.tup (ks.map V.str)) := fun kk => kk _ _ hkt (nn (ne_of hkt ha (by intro z; cases z)) (ne_of hkt hl (by intro z; cases z)))
      refine ⟨_, rfl, kt, rfl, ⟨_, SqT.of (kt' k')⟩, fun D hD => ?_⟩
      obtain ⟨_, _, ha', hl', _⟩ := B'.ex
      have Da := (ne_of_none ha' hD).symm
      have Dl := (ne_of_none hl' hD).symm
      have Df := (ne_of_none hf' hD).symm
      have hD0 : H D = none := none_of_but k' hD (nn Da Dl)
      refine lc_tup (K := K) (a := kt) (xs := ks.map V.str) (fun j H2 => ∃ r : Row, H2 D = some (.lst (r.map kV)) ∧ r.length = j ∧ (∀ c, c < j → isValue (ks.getD c "") (kcol r c) = true) ∧ Box H2 a l ∧ But [a, l] H' H2)
        ⟨[], upd_same, rfl, fun c h => absurd h (Nat.not_lt_zero _), B'.same (Rs.Same.new hD), But.same (Rs.Same.new hD)⟩ ?_ ?_ ?_
      · rintro j H2 _ ⟨r, _, _, _, _, k2⟩
        exact SqT.of (kt' (k'.trans k2))
      · rintro j v H2 hj ⟨r, hd, hrl, hrv, B2, k2⟩
        rw [List.getElem?_map] at hj
        obtain ⟨kd, hkd, rfl⟩ := Option.map_eq_some_iff.mp hj
        have hjl := (List.getElem?_eq_some_iff.mp hkd).1
        refine ⟨rfl, lc_yes ⟨_, rfl, _, rfl, a, l, kd, rfl, rfl, gk.all kd (List.mem_of_getElem? hkd), B2, fun x H3 hx B3 k3 => ?_⟩⟩
        have hd3 := k3 _ _ hd (nn Da Dl)
        refine ⟨_, hd3, szlt (by rw [List.length_map]; omega), r ++ [x], by rw [upd_same, List.map_append] <;> rfl, by simp [hrl], fun c hc => ?_, B3.keep (fun o e => up e Da.symm) (fun o e => up e Dl.symm), (k2.trans k3).mut hD⟩
        rw [kcol_append]
        by_cases e : c < r.length
        · rw [if_pos e]
          exact hrv c (by omega)
        · rw [if_neg e, if_pos (by omega)]
          have : c = j := by omega
          subst this
          rw [List.getD_eq_getElem?_getD, hkd]
          exact hx
      · rintro H2 ⟨r, hd, hrl, hrv, B2, k2⟩
        rw [List.length_map] at hrl hrv
        have hf2 := k2 _ _ hf' (nn fa fl)
        have goodr : isRow ks r = true := isRow_of hrl hrv
        have kk2 : But [a, l] H H2 := k'.trans k2
        have rows2 : Paired (RowAt H2) fv rows := Paired.tl RowAt.st (B'.tup k2) hrows
        -- told again, or not
        have again : ∀ (D : Addr) (r : Row) (H2 : Hp), H D = none → D ≠ a → D ≠ l → D ≠ f → H2 D = some (.lst (r.map kV)) → isRow ks r = true → Box H2 a l → But [a, l] H H2 → H2 f = some (.lst fv) → Paired (RowAt H2) fv rows →
            ((tSeq (tIfS (tAnd (tTest (tOp (xNeE K) (tVar 3) (tLst tNil))) (tAnd (tTest (tOpC xLt (tVar 4) (.int 2))) (tTest (tOpC rEq (tOpC (rIxT K) (tVar 1) (.int 0)) (.str "number"))))) (tAsg (tCB xMax2 (tConsC (.int (-999)) (tCons (tCB xMin2 (tConsC (.int 999) (tCons (tOp xAdd (tOpC (rIxT K) (tOpC (rIxL K) (tVar 3) (.int (-1))) (.int 0)) (tOp xMul (tOp (rIxL K) (tLst (tConsC (.int 1) (tConsC (.int (-1)) tNil))) (tVar 4)) (tCall (sp_law_take K) [] E (tCons (tVar 0) (tConsC (.int 3) tNil))))) tNil))) tNil))) (gSubC (tVar 6) (.int 0) rSetL)) tNext)
              (tDrop (tBM K "list" rAppend (tVar 3) (tCons (tCB (xTuple K) (tCons (tVar 6) tNil)) tNil)))) : TS)
            { nx := fun σ H' => ∃ (rows : List Row) (x5 x6 : Option V), σ = [some (.ref a), some (.ref kt), some (.int n), some (.ref f), some (.int way), x5, x6, none] ∧ Lst RowAt H' f rows ∧ (∀ r ∈ rows, isRow ks r = true) ∧ rows.length = i + 1 ∧ Box H' a l ∧ But [a, l] H H',
              ct := fun σ H' => ∃ (rows : List Row) (x5 x6 : Option V), σ = [some (.ref a), some (.ref kt), some (.int n), some (.ref f), some (.int way), x5, x6, none] ∧ Lst RowAt H' f rows ∧ (∀ r ∈ rows, isRow ks r = true) ∧ rows.length = i + 1 ∧ Box H' a l ∧ But [a, l] H H',
              bk := (tRet (tVar 3)) { nx := fun _ H' => Q .non H', rt := Q }, rt := Q }
            [some (.ref a), some (.ref kt), some (.int n), some (.ref f), some (.int way), some (.int (0 + (i : Int))), some (.ref D), none] H2 := by
          intro D r H2 hD0 Da Dl Df hd hr B2 k2 hf2 rows2
          -- the last: f.append(tuple(row))
          have last : ∀ (r : Row) (H3 : Hp), H3 D = some (.lst (r.map kV)) → isRow ks r = true → Box H3 a l → But [a, l] H H3 → H3 f = some (.lst fv) → Paired (RowAt H3) fv rows → (tDrop (tBM K "list" rAppend (tVar 3) (tCons (tCB (xTuple K) (tCons (tVar 6) tNil)) tNil)))
              { nx := fun σ H' => ∃ (rows : List Row) (x5 x6 : Option V), σ = [some (.ref a), some (.ref kt), some (.int n), some (.ref f), some (.int way), x5, x6, none] ∧ Lst RowAt H' f rows ∧ (∀ r ∈ rows, isRow ks r = true) ∧ rows.length = i + 1 ∧ Box H' a l ∧ But [a, l] H H',
                ct := fun σ H' => ∃ (rows : List Row) (x5 x6 : Option V), σ = [some (.ref a), some (.ref kt), some (.int n), some (.ref f), some (.int way), x5, x6, none] ∧ Lst RowAt H' f rows ∧ (∀ r ∈ rows, isRow ks r = true) ∧ rows.length = i + 1 ∧ Box H' a l ∧ But [a, l] H H',
                bk := (tRet (tVar 3)) { nx := fun _ H' => Q .non H', rt := Q }, rt := Q }
              [some (.ref a), some (.ref kt), some (.int n), some (.ref f), some (.int way), some (.int (0 + (i : Int))), some (.ref D), none] H3 := by
            intro r H3 hd hr B3 k3 hf3 rows3
            refine ⟨_, rfl, .inl ⟨rfl, _, SqL.of hf3⟩, _, rfl, _, _, rfl, .inl ⟨SqL.of hd, fun t ht => ⟨_, _, _, rfl, rfl, un hf3 ht, szlt (by omega), ?_⟩⟩⟩
            have t3 : TupLe H3 (upd (upd H3 t (.tup (r.map kV))) f (.lst (fv ++ [.ref t]))) := (TupLe.new ht).list (un hf3 ht)
            refine ⟨rows ++ [r], _, _, rfl, ⟨_, upd_same, P2.app (Paired.tl RowAt.st t3 rows3) (P2.one ⟨t, rfl, ?_⟩)⟩, fun x hx => ?_, by simp [hlen], (B3.same (Rs.Same.new ht)).keep (fun o e => up e fa.symm) (fun o e => up e fl.symm), (k3.new ht).mut hf⟩
            · rw [upd_ne (ne_of_none hf3 ht).symm]
              exact upd_same
            · rcases List.mem_append.mp hx with h | h
              · exact hall x h
              · rw [List.mem_singleton.mp h]
                exact hr
          -- the test
          refine ⟨_, rfl, sz0, fun p hp => neE hf2 hp (b := !fv.isEmpty) rfl ⟨_, rfl, ?_⟩⟩
          have B2' := B2.same (Rs.Same.new (o := .lst []) hp)
          have k2' := k2.new (o := .lst []) hp
          have hf2' : upd H2 p (.lst []) f = _ := un hf2 hp
          have hd' : upd H2 p (.lst []) D = _ := un hd hp
          have rows2' := Paired.tl RowAt.st (TupLe.new (o := .lst []) hp) rows2
          cases hfe : fv with
          | nil =>
            subst hfe
            exact last r _ hd' hr B2' k2' hf2' rows2'
          | cons f0 fr =>
            rw [← hfe]
            have en : (!fv.isEmpty) = true := by rw [hfe]; rfl
            rw [en]
            refine ⟨_, rfl, _, _, rfl, rfl, _, rfl, ?_⟩
            by_cases hw : way < 2
            · rw [decide_eq_true hw]
              have hk0 : (ks.map V.str)[0]? = some (V.str (ks[0]'(by omega))) := by rw [List.getElem?_map, List.getElem?_eq_getElem (by omega)] <;> rfl
              refine ⟨_, rfl, ixT ⟨kt, rfl, kt' k2'⟩ (j := 0) rfl hk0 ⟨rfl, _, rfl, ?_⟩⟩
              by_cases hnum : ks[0]'(by omega) = "number"
              · rw [hnum]
                have ed : decide (V.str "number" = V.str "number") = true := decide_eq_true rfl
                rw [ed]
                -- the row ahead
                obtain ⟨fl0, v, efv⟩ : ∃ (l : List V) (v : V), fv = l ++ [v] := ⟨fv.dropLast, fv.getLast (by rw [hfe]; simp), (List.dropLast_concat_getLast _).symm⟩
                obtain ⟨rl0, rv, erw⟩ : ∃ (l : List Row) (v : Row), rows = l ++ [v] := by
                  have hne : rows ≠ [] := by intro e; rw [e, hfe] at flen; simp at flen
                  exact ⟨rows.dropLast, rows.getLast hne, (List.dropLast_concat_getLast _).symm⟩
                have hvr : RowAt (upd H2 p (.lst [])) v rv := by
                  rw [efv, erw] at rows2'
                  exact P2.last rows2'
                have grv : isRow ks rv = true := hall rv (by rw [erw]; simp)
                have rvl := isRow_len grv
                have v0 := isRow_val grv (i := 0) (by omega)
                have ek : ks.getD 0 "" = "number" := by rw [List.getD_eq_getElem?_getD, List.getElem?_eq_getElem (by omega)]; exact hnum
                rw [ek] at v0
                obtain ⟨z, ez⟩ : ∃ z : Int, kcol rv 0 = .inl z := by
                  cases e : kcol rv 0 with
                  | inl z => exact ⟨z, rfl⟩
                  | inr s =>
                    rw [e] at v0
                    exact absurd v0 (by simp [isValue]; intro h; exact absurd h (by decide +kernel))
                have hf2'' : upd H2 p (.lst []) f = some (.lst (fl0 ++ [v])) := by rw [hf2', efv]
                refine ⟨_, rfl, ixLast hf2'' (ixT hvr (j := 0) rfl (by rw [List.getElem?_map, kcol_get (by omega), ez]; rfl) ?_)⟩
                refine ⟨szle (by show 2 ≤ 100000; decide), fun q hq => ⟨_, rfl, ?_⟩⟩
                have hix : ∃ s : Int, ([V.int 1, V.int (-1)] : List V)[way.toNat]? = some (.int s) ∧ (s = 1 ∨ s = -1) := by
                  rcases pick2 w0 hw with rfl | rfl
                  · exact ⟨1, rfl, .inl rfl⟩
                  · exact ⟨-1, rfl, .inr rfl⟩
                obtain ⟨s, hs, hs1⟩ := hix
                refine ixL upd_same (j := way.toNat) (by omega) hs ?_
                refine ⟨_, rfl, a, l, _, rfl, rfl, by decide, by decide, B2'.same (Rs.Same.new hq), fun g H3 g0 g1 B3 k3 => ?_⟩
                refine ⟨s, g, rfl, rfl, .inl ⟨by omega, by omega⟩, _, _, rfl, rfl, _, _, rfl, _, _, rfl, ?_⟩
                have hd3 := k3 _ _ (un hd' hq) (nn Da Dl)
                have hf3 := k3 _ _ (un hf2' hq) (nn fa fl)
                have rl := isRow_len hr
                refine ⟨_, rfl, _, _, _, 0, rfl, rfl, hd3, ixN_zero' (by rw [List.length_map]; omega), ?_⟩
                obtain ⟨zz, ezz, z1, z2⟩ : ∃ zz : Int, (if (if z + s * g < 999 then z + s * g else 999) > -999 then (if z + s * g < 999 then z + s * g else 999) else -999) = zz ∧ -999 ≤ zz ∧ zz ≤ 999 := by
                  refine ⟨_, rfl, ?_, ?_⟩ <;> split <;> (try split) <;> omega
                rw [ezz]
                have t3 : TupLe (upd H2 p (.lst [])) (upd H3 D (.lst ((r.map kV).set 0 (.int zz)))) := ((TupLe.new (o := .lst [.int 1, .int (-1)]) hq).trans ((B2'.same (Rs.Same.new hq)).tup k3)).list hd3
                refine last (r.set 0 (.inl zz)) _ (by rw [upd_same, List.map_set] <;> rfl) (isRow_of (by rw [List.length_set]; exact rl) fun c hc => ?_) (B3.keep (fun o e => up e Da.symm) (fun o e => up e Dl.symm)) ((k2'.trans ((But.same (Rs.Same.new hq)).trans k3)).mut hD0) (up hf3 Df.symm) (Paired.tl RowAt.st t3 rows2')
                rw [kcol_set (by omega)]
                by_cases ec : c = 0
                · subst ec
                  rw [if_pos rfl, ek]
                  simp [isValue, z1, z2]
                  decide +kernel
                · rw [if_neg ec]
                  exact isRow_val hr hc
              · have ed : decide (V.str (ks[0]'(by omega)) = V.str "number") = false := decide_eq_false fun e => hnum (by injection e)
                rw [ed]
                exact last r _ hd' hr B2' k2' hf2' rows2'
            · rw [decide_eq_false hw]
              exact last r _ hd' hr B2' k2' hf2' rows2'
        refine ⟨_, rfl, sz0, fun p hp => neE hf2 hp (b := !fv.isEmpty) rfl ⟨_, rfl, ?_⟩⟩
        have B2' := B2.same (Rs.Same.new (o := .lst []) hp)
        have k2' := kk2.new (o := .lst []) hp
        have hf2' : upd H2 p (.lst []) f = _ := un hf2 hp
        have hd' : upd H2 p (.lst []) D = _ := un hd hp
        have rows2' := Paired.tl RowAt.st (TupLe.new (o := .lst []) hp) rows2
        cases hfe : fv with
        | nil =>
          subst hfe
          exact again D r _ hD0 Da Dl Df hd' goodr B2' k2' hf2' rows2'
        | cons f0 fr =>
          rw [← hfe]
          have en : (!fv.isEmpty) = true := by rw [hfe]; rfl
          rw [en]
          refine ⟨_, rfl, a, l, _, rfl, rfl, by decide, by decide, B2', fun g H3 g0 g1 B3 k3 => ⟨rfl, _, rfl, ?_⟩⟩
          have hf3 := k3 _ _ hf2' (nn fa fl)
          have hd3 := k3 _ _ hd' (nn Da Dl)
          have rows3 := Paired.tl RowAt.st (B2'.tup k3) rows2'
          have fpos : 0 < fv.length := by rw [hfe]; simp
          by_cases hg : V.int g = .int 0
          · rw [decide_eq_true hg]
            refine ⟨_, rfl, _, rfl, _, rfl, _, _, rfl, .inl (SqL.of hf3), a, l, _, rfl, rfl, by omega, by omega, B3, fun g2 H4 g20 g21 B4 k4 => ?_⟩
            obtain ⟨j, rfl⟩ : ∃ j : Nat, g2 = (j : Int) := ⟨g2.toNat, by omega⟩
            have hf4 := k4 _ _ hf3 (nn fa fl)
            have rows4 := Paired.tl RowAt.st (B3.tup k4) rows3
            have hj : j < fv.length := by omega
            obtain ⟨rw_, hrw, ⟨tw, ew, htw⟩⟩ := P2.get rows4 (List.getElem?_eq_getElem hj)
            refine ixL hf4 (j := j) rfl (List.getElem?_eq_getElem hj) ?_
            rw [ew]
            refine ⟨_, _, rfl, .inr (SqT.of htw), fun d hd4 => ?_⟩
            have k04 : But [a, l] H H4 := k2'.trans (k3.trans k4)
            obtain ⟨_, _, ha4, hl4, _⟩ := B4.ex
            have da := (ne_of_none ha4 hd4).symm
            have dl := (ne_of_none hl4 hd4).symm
            exact again d rw_ _ (none_of_but k04 hd4 (nn da dl)) da dl (ne_of_none hf4 hd4).symm upd_same (hall _ (List.mem_of_getElem? hrw)) (B4.same (Rs.Same.new hd4)) (k04.new hd4) (un hf4 hd4) (Paired.tl RowAt.st (TupLe.new hd4) rows4)
          · rw [decide_eq_false hg]
            exact again D r _ hD0 Da Dl Df hd3 goodr B3 (k2'.trans k3) hf3 rows3
    · rintro σ H' ⟨rows, x5, x6, rfl, hf', hall, hlen, B', k'⟩
      exact ⟨_, rfl, k f rows H' hf hf' hall (by omega) B' k'⟩
end Rs

namespace Rs
open PySem PySem.Spec PyProof.Rows L2
abbrev N_need_kinds : List Str := ["kinds", "kind"]
abbrev P_need_kinds : List Str := ["kinds"]
def sp_need_kinds (K : PySem.W.Frag) : Sp := fun vs H Q E => match vs with
  | [kv] => ∃ ks, KindsAt H kv ks ∧ GoodKinds ks ∧ ∀ H', Same H H' → Q .non H'
  | _ => False
def t_need_kinds (K : PySem.W.Frag) (E : XK) : TS := (tIfS (tOr (tNot (tTest (tChain xLe xLe (tC (.int 1)) (tCB1 (xLen K) (tVar 0)) (tC (.int 4))))) (tTest (tOp (xNeE K) (tLc (iTup K (tVar 0)) (gName 1) (tTest (tOp (rIn K true) (tVar 1) (tTup (tConsC (.str "number") (tConsC (.str "word") tNil))))) (tVar 1) [1]) (tLst tNil)))) tNever tNext)
theorem in_two {x s t : Str} : inV (.str x) [.str s, .str t] = (decide (s = x) || decide (t = x)) := by
  unfold inV
  show (eqV (.str s) (.str x) || (eqV (.str t) (.str x) || false)) = _
  rw [Bool.or_false]
  have e : ∀ a b : Str, eqV (.str a) (.str b) = decide (a = b) := fun a b => rfl
  rw [e, e]
theorem pure_need_kinds {K : PySem.W.Frag} : ∀ vs H Q E, sp_need_kinds K vs H Q E → t_need_kinds K E { nx := fun _ H' => Q .non H', rt := Q } (start N_need_kinds vs) H := by
  intro vs H Q E h
  match vs, h with
  | [kv], h =>
    obtain ⟨ks, ⟨kt, rfl, hkt⟩, gk, k⟩ := h
    have g1 := gk.pos
    have g4 := gk.le
    refine ⟨_, rfl, _, _, rfl, .inr (SqT.of hkt), _, _, rfl, rfl, _, rfl, ?_⟩
    rw [List.length_map, decide_eq_true (show (1 : Int) ≤ (ks.length : Int) by omega)]
    refine ⟨_, _, rfl, rfl, _, rfl, ?_⟩
    rw [decide_eq_true (show (ks.length : Int) ≤ 4 by omega)]
    refine ⟨_, rfl, kt, rfl, ⟨_, SqT.of hkt⟩, fun D hD => ?_⟩
    refine lc_tup (K := K) (a := kt) (xs := ks.map V.str) (fun j H2 => H2 D = some (.lst []) ∧ Same H H2) ⟨upd_same, Rs.Same.new hD⟩ ?_ ?_ ?_
    · rintro j H2 _ ⟨_, s⟩
      exact SqT.of (s _ _ hkt)
    · rintro j v H2 hj ⟨hd, s⟩
      rw [List.getElem?_map] at hj
      obtain ⟨kd, hkd, rfl⟩ := Option.map_eq_some_iff.mp hj
      refine ⟨rfl, _, rfl, szle (by show 2 ≤ 100000; decide), fun p hp => ⟨p, _, rfl, .inr (SqT.of upd_same), rfl, rfl, _, rfl, ?_⟩⟩
      have e : inV (.str kd) [.str "number", .str "word"] = true := by
        rw [in_two]
        rcases gk.all kd (List.mem_of_getElem? hkd) with rfl | rfl
        · rw [decide_eq_true rfl]; rfl
        · rw [decide_eq_true (p := ("word" : Str) = "word") rfl, Bool.or_true]
      rw [e]
      exact ⟨un hd hp, s.trans (Rs.Same.new hp)⟩
    · rintro H2 ⟨hd, s⟩
      refine ⟨sz0, fun p hp => neE hd hp (b := false) rfl ⟨_, rfl, ?_⟩⟩
      exact k _ (s.trans (Rs.Same.new hp))
abbrev N_is_turn : List Str := ["kinds", "turn"]
abbrev P_is_turn : List Str := ["kinds", "turn"]
def sp_is_turn (K : PySem.W.Frag) : Sp := fun vs H Q E => match vs with
  | [kv, tv] => ∃ (ks : List Str) (t : Nat × Bool), KindsAt H kv ks ∧ TurnAt H tv t ∧ t.1 < ks.length ∧ ∀ H', Same H H' → Q (.bl true) H'
  | _ => False
def t_is_turn (K : PySem.W.Frag) (E : XK) : TS := (tRet (tAndV (tOpC rEq (tCB1 (xLen K) (tVar 1)) (.int 2)) (tAndV (tChain xLe xLt (tC (.int 0)) (tOpC (rIxT K) (tVar 1) (.int 0)) (tCB1 (xLen K) (tVar 0))) (tOp (rIn K false) (tOpC (rIxT K) (tVar 1) (.int 1)) (tTup (tConsC (.str "up") (tConsC (.str "down") tNil)))))))
theorem pure_is_turn {K : PySem.W.Frag} : ∀ vs H Q E, sp_is_turn K vs H Q E → t_is_turn K E { nx := fun _ H' => Q .non H', rt := Q } (start N_is_turn vs) H := by
  intro vs H Q E h
  match vs, h with
  | [kv, tv], h =>
    obtain ⟨ks, t, ⟨kt, rfl, hkt⟩, ⟨ta, rfl, hta⟩, hlt, k⟩ := h
    refine ⟨_, rfl, _, _, rfl, .inr (SqT.of hta), rfl, _, rfl, ?_⟩
    have e1 : decide (V.int ((([V.int (t.1 : Int), V.str (wayS t.2)] : List V).length : Nat) : Int) = V.int 2) = true := decide_eq_true rfl
    rw [e1]
    refine ⟨_, rfl, ixT ⟨ta, rfl, hta⟩ (j := 0) rfl rfl ⟨_, _, rfl, rfl, _, rfl, ?_⟩⟩
    rw [decide_eq_true (show (0 : Int) ≤ (t.1 : Int) by omega)]
    refine ⟨_, rfl, _, _, rfl, .inr (SqT.of hkt), _, _, rfl, rfl, _, rfl, ?_⟩
    rw [List.length_map, decide_eq_true (show (t.1 : Int) < (ks.length : Int) by omega)]
    refine ⟨_, rfl, ixT ⟨ta, rfl, hta⟩ (j := 1) rfl rfl ⟨szle (by show 2 ≤ 100000; decide), fun p hp => ⟨p, _, rfl, .inr (SqT.of upd_same), rfl, rfl, ?_⟩⟩⟩
    have e : inV (.str (wayS t.2)) [.str "up", .str "down"] = true := by
      rw [in_two]
      cases t.2
      · rw [decide_eq_true (p := ("down" : Str) = wayS false) rfl, Bool.or_true]
      · rw [decide_eq_true (p := ("up" : Str) = wayS true) rfl]; rfl
    show Q (.bl (inV (.str (wayS t.2)) [.str "up", .str "down"])) _
    rw [e]
    exact k _ (Rs.Same.new hp)
abbrev N_need_order : List Str := ["kinds", "order", "good", "turn"]
abbrev P_need_order : List Str := ["kinds", "order"]
def sp_need_order (K : PySem.W.Frag) : Sp := fun vs H Q E => match vs with
  | [kv, ov] => ∃ ks o, KindsAt H kv ks ∧ LstV TurnAt H ov o ∧ GoodOrd ks o ∧ o.length ≤ 1000 ∧ ∀ H', Same H H' → Q .non H'
  | _ => False
def t_need_order (K : PySem.W.Frag) (E : XK) : TS := (tSeq (tAsg (tLc (iList K (tVar 1)) (gName 3) (tB (tCall (sp_is_turn K) [] E0 (tCons (tVar 0) (tCons (tVar 3) tNil)))) (tVar 3) [3]) (gName 2))
  (tIfS (tOr (tTest (tOpC rEq (tCB1 (xLen K) (tVar 2)) (.int 0))) (tOr (tTest (tOp rNe (tCB1 (xLen K) (tVar 2)) (tCB1 (xLen K) (tVar 1)))) (tTest (tOp rNe (tLenSetX K (tLc (iList K (tVar 2)) (gName 3) tYes (tOpC (rIxT K) (tVar 3) (.int 0)) [3])) (tCB1 (xLen K) (tVar 2)))))) tNever tNext))
theorem nodup_cast : ∀ {l : List Nat}, l.Nodup → (l.map fun (n : Nat) => (n : Int)).Nodup
  | [], _ => by simp
  | a :: l, h => by
    rw [List.map_cons, List.nodup_cons]
    obtain ⟨h1, h2⟩ := List.nodup_cons.mp h
    refine ⟨fun hm => ?_, nodup_cast h2⟩
    obtain ⟨b, hb, e⟩ := List.mem_map.mp hm
    exact h1 (by have : b = a := by omega
                 rw [← this]; exact hb)
theorem pure_need_order {K : PySem.W.Frag} : ∀ vs H Q E, sp_need_order K vs H Q E → t_need_order K E { nx := fun _ H' => Q .non H', rt := Q } (start N_need_order vs) H := by
  intro vs H Q E h
  match vs, h with
  | [kv, ov], h =>
    obtain ⟨ks, o, hk, ⟨lo, rfl, ov, hlo, hts⟩, go, hlen, k⟩ := h
    have hl := hts.length
    refine ⟨_, rfl, lo, rfl, ⟨_, SqL.of hlo⟩, fun D hD => ?_⟩
    refine lc_list (K := K) (a := lo) (xs := ov) (fun j H2 => H2 D = some (.lst (ov.take j)) ∧ Same H H2) ⟨upd_same, Rs.Same.new hD⟩ ?_ ?_ ?_
    · rintro j H2 _ ⟨_, s⟩
      exact SqL.of (s _ _ hlo)
    · rintro j v H2 hj ⟨hd, s⟩
      obtain ⟨t, ht, hta⟩ := P2.get hts hj
      have st := TupLe.same s
      refine ⟨rfl, _, rfl, _, rfl, ks, t, hk.mono st, hta.mono st, go.col t (List.mem_of_getElem? ht), fun H3 s3 => ⟨_, rfl, ?_⟩⟩
      refine ⟨_, rfl, _, s3 _ _ hd, szlt (by rw [List.length_take]; omega), ?_, Rs.Same.mut (s.trans s3) hD⟩
      rw [upd_same, List.take_succ, hj] <;> rfl
    · rintro H2 ⟨hd, s⟩
      rw [List.take_of_length_le (Nat.le_refl _)] at hd
      have hpos : 0 < ov.length := by
        rw [hl]
        cases o with
        | nil => exact absurd rfl go.ne
        | cons t o => simp
      refine ⟨_, rfl, _, _, rfl, .inl (SqL.of hd), rfl, _, rfl, ?_⟩
      have e0 : decide (V.int (ov.length : Int) = V.int 0) = false := decide_eq_false fun e => by injection e with e; omega
      rw [e0]
      refine ⟨_, rfl, _, _, rfl, .inl (SqL.of hd), _, rfl, _, _, rfl, .inl (SqL.of (s _ _ hlo)), rfl, _, rfl, ?_⟩
      have e1 : (!decide (V.int (ov.length : Int) = V.int (ov.length : Int))) = false := by simp
      rw [e1]
      refine ⟨_, rfl, D, rfl, ⟨_, SqL.of hd⟩, fun D2 hD2 => ?_⟩
      refine lc_list (K := K) (a := D) (xs := ov) (fun j H3 => H3 D2 = some (.lst (((o.map (·.1)).take j).map fun (n : Nat) => V.int (n : Int))) ∧ Same H2 H3) ⟨by rw [upd_same] <;> rfl, Rs.Same.new hD2⟩ ?_ ?_ ?_
      · rintro j H3 _ ⟨_, s3⟩
        exact SqL.of (s3 _ _ hd)
      · rintro j v H3 hj ⟨hd2, s3⟩
        obtain ⟨t, ht, hta⟩ := P2.get hts hj
        have st := TupLe.same (s.trans s3)
        refine ⟨rfl, lc_yes ⟨_, rfl, ixT (hta.mono st) (j := 0) rfl rfl ?_⟩⟩
        refine ⟨_, hd2, szlt (by rw [List.length_map, List.length_take, List.length_map]; omega), ?_, Rs.Same.mut s3 hD2⟩
        rw [upd_same, List.take_succ, List.getElem?_map, ht, List.map_append] <;> rfl
      · rintro H3 ⟨hd2, s3⟩
        rw [List.take_of_length_le (by rw [List.length_map]; omega)] at hd2
        have em : (o.map (·.1)).map (fun (n : Nat) => V.int (n : Int)) = ((o.map (·.1)).map fun (n : Nat) => (n : Int)).map V.int := by rw [List.map_map (f := fun (n : Nat) => (n : Int))] <;> rfl
        rw [em] at hd2
        refine ⟨D2, _, rfl, SqL.of hd2, by rw [List.length_map, List.length_map]; omega, _, rfl, _, _, rfl, .inl (SqL.of (s3 _ _ hd)), rfl, _, rfl, ?_⟩
        have e2 : (!decide (V.int ((dcount ((o.map (·.1)).map fun (n : Nat) => (n : Int)) : Nat) : Int) = V.int (ov.length : Int))) = false := by
          rw [dcount_nodup (nodup_cast go.nd), List.length_map, List.length_map, hl]
          simp
        rw [e2]
        exact k _ (s.trans s3)
abbrev N_is_value : List Str := ["kind", "value", "sign"]
abbrev P_is_value : List Str := ["kind", "value"]
def sp_is_value (K : PySem.W.Frag) : Sp := fun vs H Q E => match vs with
  | [kv, xv] => ∃ (kd : Str) (x : Key), kv = .str kd ∧ xv = kV x ∧ (∀ s, x = .inr s → s.length ≤ 1000) ∧ ∀ H', Same H H' → Q (.bl (isValue kd x)) H'
  | _ => False
def t_is_value (K : PySem.W.Frag) (E : XK) : TS := (tSeq (tIfS (tTest (tOpC rEq (tVar 0) (.str "word"))) 
    (tSeq (tIfS (tOr (tNot (tB (tIsi K "str" (tVar 1)))) (tTest (tOpC xGt (tCB1 xLenS (tVar 1)) (.int 6)))) (tRet (tC (.bl false))) tNext)
    (tRet (tOp (xEqE K) (tLc (iStr (tVar 1)) (gName 2) (tTest (tOpC rNotInS (tVar 2) (.str "abcdefghijklmnopqrstuvwxyz"))) (tVar 2) [2]) (tLst tNil)))) tNext)
  (tRet (tAndV (tIsi K "int" (tVar 1)) (tAndV (tNotV (tIsi K "bool" (tVar 1))) (tChain xLe xLe (tOpC xSub (tC (.int 0)) (.int 999)) (tVar 1) (tC (.int 999)))))))
theorem filter_nil_all {α : Type} (p : α → Bool) : ∀ l : List α, (l.filter fun x => !p x).isEmpty = l.all p
  | [] => rfl
  | a :: l => by
    rw [List.filter_cons, List.all_cons]
    cases p a
    · rfl
    · simpa using filter_nil_all p l
theorem pure_is_value {K : PySem.W.Frag} : ∀ vs H Q E, sp_is_value K vs H Q E → t_is_value K E { nx := fun _ H' => Q .non H', rt := Q } (start N_is_value vs) H := by
  intro vs H Q E h
  match vs, h with
  | [kv, xv], h =>
    obtain ⟨kd, x, rfl, rfl, hsz, k⟩ := h
    refine ⟨_, rfl, rfl, _, rfl, ?_⟩
    by_cases hw : V.str kd = V.str "word"
    · rw [decide_eq_true hw]
      have ekd : kd = "word" := by injection hw
      cases x with
      | inl i =>
        refine ⟨_, rfl, isi_go (t := "int") (b := false) (.base (.int i)) (by decide +kernel) ⟨_, rfl, ?_⟩⟩
        have e : isValue kd (.inl i) = false := by simp [isValue, ekd]
        rw [e] at k
        exact k _ (Same.refl H)
      | inr s =>
        refine ⟨_, rfl, isi_go (t := "str") (b := true) (.base (.str s)) (by decide +kernel) ⟨_, rfl, ?_⟩⟩
        refine ⟨_, rfl, s, rfl, szle (by have := hsz s rfl; omega), _, _, rfl, rfl, _, rfl, ?_⟩
        by_cases hl : (6 : Int) < (s.length : Int)
        · rw [decide_eq_true hl]
          have e : isValue kd (.inr s) = false := by simp [isValue]; intro _ h6; omega
          rw [e] at k
          exact k _ (Same.refl H)
        · rw [decide_eq_false hl]
          refine ⟨_, rfl, s, rfl, fun D hD => ?_⟩
          refine lc_it (walk_str (z := s)) (fun j H2 => H2 D = some (.lst (((s.cps.toList.take j).filter fun c => !decide (c ∈ letters)).map fun c => V.str ⟨#[c]⟩)) ∧ Same H H2) ⟨upd_same, Rs.Same.new hD⟩ (fun _ _ _ _ => trivial) ?_ ?_
          · rintro j x H1 H2 hj ⟨hd, s1⟩ ⟨rfl, c, hc, rfl⟩
            have hc' : s.cps.toList[j]? = some c := by simpa using hc
            have hlen : s.cps.size ≤ 6 := by have : s.length = s.cps.size := rfl; omega
            refine ⟨rfl, _, rfl, c, _, rfl, rfl, _, rfl, ?_⟩
            have el : ("abcdefghijklmnopqrstuvwxyz" : Str).cps.toList = letters := rfl
            rw [el]
            by_cases hm : c ∈ letters
            · rw [decide_eq_true hm]
              refine ⟨?_, s1⟩
              rw [hd, List.take_succ, hc', List.filter_append]
              simp [hm]
            · rw [decide_eq_false hm]
              refine ⟨_, rfl, _, hd, szlt (by rw [List.length_map]; have := List.length_filter_le (fun c => !decide (c ∈ letters)) (s.cps.toList.take j); rw [List.length_take] at this; omega), ?_, Rs.Same.mut s1 hD⟩
              rw [upd_same, List.take_succ, hc', List.filter_append]
              simp [hm]
          · rintro H2 ⟨hd, s1⟩
            rw [List.take_of_length_le (by simp)] at hd
            refine ⟨sz0, fun p hp => ?_⟩
            refine eqE hd hp (b := isValue kd (.inr s)) ?_ (k _ (s1.trans (Rs.Same.new hp)))
            have h6 : s.length ≤ 6 := by omega
            simp only [isValue, ekd, h6, decide_true, Bool.true_and]
            rw [List.isEmpty_map, filter_nil_all]
    · rw [decide_eq_false hw]
      have ekd : kd ≠ "word" := fun e => hw (by rw [e])
      cases x with
      | inl i =>
        refine ⟨_, rfl, isi_go (t := "int") (b := true) (.base (.int i)) (by decide +kernel) ⟨_, rfl, ?_⟩⟩
        refine ⟨_, rfl, isi_go (t := "int") (b := false) (.base (.int i)) (by decide +kernel) ⟨_, rfl, _, rfl, ?_⟩⟩
        refine ⟨_, _, rfl, rfl, _, rfl, _, _, rfl, rfl, _, rfl, ?_⟩
        have hk : isValue kd (.inl i) = (decide ((0 : Int) - 999 ≤ i) && decide (i ≤ 999)) := by
          simp only [isValue, ne_eq, ekd, not_false_eq_true, decide_true, Bool.true_and]
          rfl
        rw [hk] at k
        by_cases h1 : (0 : Int) - 999 ≤ i
        · rw [decide_eq_true h1] at k ⊢
          refine ⟨_, _, rfl, rfl, k _ (Same.refl H)⟩
        · rw [decide_eq_false h1] at k ⊢
          exact k _ (Same.refl H)
      | inr s =>
        refine ⟨_, rfl, isi_go (t := "str") (b := false) (.base (.str s)) (by decide +kernel) ⟨_, rfl, ?_⟩⟩
        have e : isValue kd (.inr s) = false := by simp [isValue, ekd]
        rw [e] at k
        exact k _ (Same.refl H)
abbrev N_is_row : List Str := ["kinds", "row", "k"]
abbrev P_is_row : List Str := ["kinds", "row"]
def RowSz (r : Row) : Prop := r.length ≤ 1000 ∧ ∀ s, Sum.inr s ∈ r → s.length ≤ 1000
theorem RowSz.of {ks : List Str} {r : Row} (h : isRow ks r = true) (hk : ks.length ≤ 4) : RowSz r := by
  refine ⟨by rw [isRow_len h]; omega, fun s hs => ?_⟩
  obtain ⟨i, hi, e⟩ := List.mem_iff_getElem.mp hs
  have v := isRow_val h (i := i) (by rw [← isRow_len h]; exact hi)
  have ek : kcol r i = .inr s := by
    unfold kcol
    rw [List.getD_eq_getElem?_getD, List.getElem?_eq_getElem hi, e]
    rfl
  rw [ek] at v
  simp only [isValue, Bool.and_eq_true, decide_eq_true_eq] at v
  omega
def sp_is_row (K : PySem.W.Frag) : Sp := fun vs H Q E => match vs with
  | [kv, rv] => ∃ (ks : List Str) (r : Row), KindsAt H kv ks ∧ RowAt H rv r ∧ RowSz r ∧ ks.length ≤ 1000 ∧ ∀ H', Same H H' → Q (.bl (isRow ks r)) H'
  | _ => False
def t_is_row (K : PySem.W.Frag) (E : XK) : TS := (tSeq (tIfS (tTest (tOp rNe (tCB1 (xLen K) (tVar 1)) (tCB1 (xLen K) (tVar 0)))) (tRet (tC (.bl false))) tNext)
  (tRet (tOp (xEqE K) (tLc (iRng1 (tCons (tCB1 (xLen K) (tVar 0)) tNil)) (gName 2) (tNot (tB (tCall (sp_is_value K) [] E0 (tCons (tOp (rIxT K) (tVar 0) (tVar 2)) (tCons (tOp (rIxT K) (tVar 1) (tVar 2)) tNil))))) (tVar 2) [2]) (tLst tNil))))
theorem pure_is_row {K : PySem.W.Frag} : ∀ vs H Q E, sp_is_row K vs H Q E → t_is_row K E { nx := fun _ H' => Q .non H', rt := Q } (start N_is_row vs) H := by
  intro vs H Q E h
  match vs, h with
  | [kv, rv], h =>
    obtain ⟨ks, r, ⟨kt, rfl, hkt⟩, ⟨rt, rfl, hrt⟩, hsz, hkl, k⟩ := h
    refine ⟨_, rfl, _, _, rfl, .inr (SqT.of hrt), _, rfl, _, _, rfl, .inr (SqT.of hkt), rfl, _, rfl, ?_⟩
    by_cases hl : r.length = ks.length
    · have e1 : (!decide (V.int (((r.map kV).length : Nat) : Int) = V.int (((ks.map V.str).length : Nat) : Int))) = false := by
        rw [List.length_map, List.length_map, hl]; simp
      rw [e1]
      refine ⟨_, rfl, _, _, rfl, .inr (SqT.of hkt), _, rfl, by omega, by rw [List.length_map]; omega, fun D hD => ?_⟩
      refine lc_range (lo := 0) (n := (((ks.map V.str).length : Nat) : Int).toNat) (fun j H2 => H2 D = some (.lst (((List.range j).filter fun i => !isValue (ks.getD i "") (kcol r i)).map fun (i : Nat) => V.int (i : Int))) ∧ Same H H2) ⟨upd_same, Rs.Same.new hD⟩ ?_ ?_
      · rintro j H2 hj ⟨hd, s⟩
        rw [List.length_map] at hj
        have hjk : j < ks.length := by omega
        have z : (0 + (j : Int)) = (j : Int) := by omega
        refine ⟨rfl, _, rfl, _, rfl, _, _, _, _, rfl, rfl, SqT.of (s _ _ hkt), at_of (j := j) z (by rw [List.getElem?_map, List.getElem?_eq_getElem hjk]; rfl), _, rfl, _, rfl, _, _, _, _, rfl, rfl, SqT.of (s _ _ hrt), at_of (j := j) z (by rw [List.getElem?_map, kcol_get (by omega)]; rfl), _, _, rfl, rfl, fun st hst => ?_, fun H3 s3 => ⟨_, rfl, ?_⟩⟩
        · refine hsz.2 st ?_
          rw [← hst]
          exact List.mem_of_getElem? (kcol_get (by omega))
        have eg : ks[j] = ks.getD j "" := by rw [List.getD_eq_getElem?_getD, List.getElem?_eq_getElem hjk]; rfl
        rw [eg]
        have hd3 := s3 _ _ hd
        have lf : ((List.range j).filter fun i => !isValue (ks.getD i "") (kcol r i)).length ≤ j := by
          have := List.length_filter_le (fun i => !isValue (ks.getD i "") (kcol r i)) (List.range j)
          rw [List.length_range] at this
          exact this
        cases hv : isValue (ks.getD j "") (kcol r j) with
        | true =>
          refine ⟨?_, s.trans s3⟩
          have ef : ([j].filter fun i => !isValue (ks.getD i "") (kcol r i)) = [] := by rw [List.filter_cons, hv] <;> rfl
          rw [hd3, List.range_succ, List.filter_append, ef, List.append_nil]
        | false =>
          refine ⟨_, rfl, _, hd3, szlt (by rw [List.length_map]; omega), ?_, Rs.Same.mut (s.trans s3) hD⟩
          have ef : ([j].filter fun i => !isValue (ks.getD i "") (kcol r i)) = [j] := by rw [List.filter_cons, hv] <;> rfl
          rw [upd_same, List.range_succ, List.filter_append, z, ef, List.map_append] <;> rfl
      · rintro H2 ⟨hd, s⟩
        have en : (((ks.map V.str).length : Nat) : Int).toNat = ks.length := by rw [List.length_map]; omega
        rw [en] at hd
        refine ⟨sz0, fun p hp => eqE hd hp (b := isRow ks r) ?_ (k _ (s.trans (Rs.Same.new hp)))⟩
        rw [List.isEmpty_map, filter_nil_all]
        unfold isRow
        rw [decide_eq_true hl, Bool.true_and]
    · have e1 : (!decide (V.int (((r.map kV).length : Nat) : Int) = V.int (((ks.map V.str).length : Nat) : Int))) = true := by
        rw [List.length_map, List.length_map]
        rw [decide_eq_false fun e => hl (by injection e with e; omega)]
        rfl
      rw [e1]
      have e : isRow ks r = false := by unfold isRow; rw [decide_eq_false hl]; rfl
      rw [e] at k
      exact k _ (Same.refl H)
def mrg (o : Ord) : List Pr → List Pr → List Pr
  | xs, [] => xs
  | xs, y :: ys => (xs.takeWhile fun x => before o x y) ++ y :: mrg o (xs.dropWhile fun x => before o x y) ys
theorem cut_from {xs : List V} {n : Nat} (h : n ≤ xs.length) : cutV xs (some (n : Int)) none = xs.drop n := by
  unfold cutV
  rw [HT.sIx_nat, HT.sIx_none, Nat.min_eq_left h]
  exact List.take_of_length_le (by rw [List.length_drop]; exact Nat.le_refl _)
theorem cut_to {xs : List V} {n : Nat} (h : n ≤ xs.length) : cutV xs none (some (n : Int)) = xs.take n := by
  unfold cutV
  rw [HT.sIx_nat, HT.sIx_none, Nat.min_eq_left h, List.drop_zero]
  rfl
end Rs

namespace Rs
open PySem PySem.Spec PyProof.Rows L2
theorem Fine.left {ks : List Str} {xs ys : List Pr} (h : Fine ks (xs ++ ys)) : Fine ks xs := h.sub (List.sublist_append_left _ _)
theorem Fine.right {ks : List Str} {xs ys : List Pr} (h : Fine ks (xs ++ ys)) : Fine ks ys := h.sub (List.sublist_append_right _ _)
theorem nodup_ne {xs ys : List Pr} (h : ((xs ++ ys).map (·.1)).Nodup) {x y : Pr} (hx : x ∈ xs) (hy : y ∈ ys) : x.1 ≠ y.1 := by
  rw [List.map_append] at h
  intro e
  exact (List.nodup_append.mp h).2.2 _ (List.mem_map_of_mem hx) _ (List.mem_map_of_mem hy) e
theorem after_of {ks : List Str} {o : Ord} (ho : ∀ t ∈ o, t.1 < ks.length) {x y : Pr} (hx : isRow ks x.2 = true) (hy : isRow ks y.2 = true) (n : x.1 ≠ y.1) (h : before o x y = false) : before o y x = true := by
  rw [before_tot o (cmp_of ho hx hy) n, h]
  rfl
theorem put_up {ks : List Str} {o : Ord} (ho : ∀ t ∈ o, t.1 < ks.length) {ys : List Pr} {p : Pr} {n : Nat} (f : Fine ks (p :: ys)) (a : Up o ys) (h1 : ∀ i y, i < n → ys[i]? = some y → before o p y = false) (h2 : ∀ i y, n ≤ i → ys[i]? = some y → before o p y = true) :
    Up o (ys.take n ++ [p] ++ ys.drop n) := by
  have rp : isRow ks p.2 = true := f.row p (List.mem_cons_self ..)
  have ry : ∀ y ∈ ys, isRow ks y.2 = true := fun y hy => f.row y (List.mem_cons_of_mem _ hy)
  have tp : ∀ y ∈ ys.take n, before o y p = true := fun y hy => by
    obtain ⟨i, hi, e⟩ := List.mem_iff_getElem.mp hy
    rw [List.length_take] at hi
    have e2 : ys[i]? = some y := by
      rw [← e, List.getElem_take]
      exact List.getElem?_eq_getElem (by omega)
    have yy : y ∈ ys := List.mem_of_getElem? e2
    exact after_of ho rp (ry y yy) (nodup_ne (xs := [p]) (ys := ys) f.nd (List.mem_singleton.mpr rfl) yy) (h1 i y (by omega) e2)
  have pd : ∀ y ∈ ys.drop n, before o p y = true := fun y hy => by
    obtain ⟨i, hi, e⟩ := List.mem_iff_getElem.mp hy
    refine h2 (n + i) y (by omega) ?_
    rw [← e, List.getElem_drop]
    exact List.getElem?_eq_getElem (by rw [List.length_drop] at hi; omega)
  have a2 : Up o (ys.take n ++ ys.drop n) := by rw [List.take_append_drop]; exact a
  obtain ⟨b1, b2, b3⟩ := List.pairwise_append.mp a2
  rw [List.append_assoc]
  refine List.pairwise_append.mpr ⟨b1, List.pairwise_cons.mpr ⟨pd, b2⟩, fun x hx z hz => ?_⟩
  rcases List.mem_cons.mp hz with e | e
  · rw [e]; exact tp x hx
  · exact b3 x hx z e
def sortSpec (K : PySem.W.Frag) (most : Nat) : Sp := fun vs H Q E => match vs with
  | [ov, pv] => ∃ ks o xs, LstV TurnAt H ov o ∧ LstV PairAt H pv xs ∧ (∀ t ∈ o, t.1 < ks.length) ∧ Fine ks xs ∧ xs.length ≤ most ∧
    ∀ f ys H', H f = none → Lst PairAt H' f ys → ys.Perm xs → Up o ys → Same H H' → Q (.ref f) H'
  | _ => False
abbrev N_law_sorted : List Str := ["_law_order_here", "_law_pairs_here", "_law_found", "_law_pair", "_law_low", "_law_high", "_law_half"]
abbrev P_law_sorted : List Str := ["_law_order_here", "_law_pairs_here"]
def sp_law_sorted (K : PySem.W.Frag) : Sp := sortSpec K 1000
def t_law_sorted (K : PySem.W.Frag) (E : XK) : TS := (tSeq (tAsg (tLst tNil) (gName 2))
  (tSeq (tFor (iList K (tVar 1)) (gName 3) 
     (tSeq (tPar 4 5 (tConsC (.int 0) (tCons (tCB1 (xLen K) (tVar 2)) tNil)))
     (tSeq (tWhile (tTest (tOp xLt (tVar 4) (tVar 5))) 
        (tSeq (tAsg (tOpC xDiv (tOp xAdd (tVar 4) (tVar 5)) (.int 2)) (gName 6))
        (tIfS (tB (tCall (sp_law_ahead K) [] E (tCons (tVar 0) (tCons (tVar 3) (tCons (tOp (rIxL K) (tVar 2) (tVar 6)) tNil))))) (tAsg (tVar 6) (gName 5)) (tAsg (tOpC xAdd (tVar 6) (.int 1)) (gName 4)))))
      (tDrop (tBM K "list" xInsert (tVar 2) (tCons (tVar 4) (tCons (tVar 3) tNil)))))))
   (tRet (tVar 2))))
theorem pure_law_sorted {K : PySem.W.Frag} : ∀ vs H Q E, sp_law_sorted K vs H Q E → t_law_sorted K E { nx := fun _ H' => Q .non H', rt := Q } (start N_law_sorted vs) H := by
  intro vs H Q E h
  unfold sp_law_sorted at h
  match vs, h with
  | [ov, pv], h =>
    obtain ⟨ks, o, xs, ho, ⟨lx, rfl, xv, hx, hxs⟩, hcol, hf, hlen, k⟩ := h
    have hl := hxs.length
    refine ⟨sz0, fun f hn => ?_⟩
    refine ⟨_, rfl, lx, rfl, ⟨_, SqL.of (un hx hn)⟩, ?_⟩
    refine for_list (K := K) (a := lx) (xs := xv) (fun i σ H' => ∃ (ys : List Pr) (x3 x4 x5 x6 : Option V), σ = [some ov, some (.ref lx), some (.ref f), x3, x4, x5, x6] ∧ Same H H' ∧ Lst PairAt H' f ys ∧ ys.Perm (xs.take i) ∧ Up o ys)
      ⟨[], none, none, none, none, rfl, Rs.Same.new hn, ⟨[], upd_same, .nil⟩, by simp, .nil⟩ ?_ ?_ ?_
    · rintro i σ H' _ ⟨_, _, _, _, _, _, s, _⟩
      exact SqL.of (s _ _ hx)
    · rintro i v σ H' hi ⟨ys, x3, x4, x5, x6, rfl, s, ⟨yv, hy, hys⟩, hp, hu⟩
      obtain ⟨p, hp', hpa⟩ := P2.get hxs hi
      have hil := (List.getElem?_eq_some_iff.mp hi).1
      have hyl := hys.length
      have hpl := hp.length_eq
      rw [List.length_take] at hpl
      have tH := TupLe.same s
      have pp : (p :: ys).Perm (xs.take (i + 1)) := by
        rw [List.take_succ, hp']
        show (p :: ys).Perm (xs.take i ++ [p])
        exact (List.Perm.cons p hp).trans (List.perm_append_comm (l₁ := [p]) (l₂ := xs.take i))
      have ff : Fine ks (p :: ys) := (hf.take (i + 1)).perm pp
      refine ⟨_, rfl, _, _, rfl, .inl (SqL.of hy), _, _, rfl, ?_⟩
      refine ⟨fun m σ H1 => ∃ (lo hi : Nat) (x6 : Option V), m = hi - lo ∧ σ = [some ov, some (.ref lx), some (.ref f), some v, some (.int (lo : Int)), some (.int (hi : Int)), x6] ∧ H1 = H' ∧ lo ≤ hi ∧ hi ≤ ys.length ∧ (∀ j y, j < lo → ys[j]? = some y → before o p y = false) ∧ (∀ j y, hi ≤ j → ys[j]? = some y → before o p y = true),
        ⟨_, 0, ys.length, x6, rfl, by rw [← hyl]; rfl, rfl, Nat.zero_le _, Nat.le_refl _, fun j y h => absurd h (Nat.not_lt_zero _), fun j y h e => absurd (List.getElem?_eq_some_iff.mp e).1 (by omega)⟩, ?_⟩
      rintro m σ H1 ⟨lo, hi_, x6, rfl, rfl, rfl, h1, h2, ha, hb⟩
      refine ⟨_, rfl, _, rfl, _, _, rfl, rfl, _, rfl, ?_⟩
      by_cases hlt : (lo : Int) < (hi_ : Int)
      · rw [decide_eq_true hlt]
        have hmid : ((lo : Int) + (hi_ : Int)) / 2 = (((lo + hi_) / 2 : Nat) : Int) := by omega
        have hmlt : (lo + hi_) / 2 < ys.length := by omega
        obtain ⟨w, hw, hwa⟩ := P2.get' hys (List.getElem?_eq_getElem hmlt)
        refine ⟨fun σ H2 => ∃ (lo2 hi2 : Nat) (x6 : Option V), hi2 - lo2 < hi_ - lo ∧ σ = [some ov, some (.ref lx), some (.ref f), some v, some (.int (lo2 : Int)), some (.int (hi2 : Int)), x6] ∧ H2 = H1 ∧ lo2 ≤ hi2 ∧ hi2 ≤ ys.length ∧ (∀ j y, j < lo2 → ys[j]? = some y → before o p y = false) ∧ (∀ j y, hi2 ≤ j → ys[j]? = some y → before o p y = true), ?_, ?_⟩
        · rintro σ H2 ⟨lo2, hi2, x6, g1, g2⟩
          exact ⟨_, g1, lo2, hi2, x6, rfl, g2⟩
        · refine ⟨_, rfl, _, rfl, _, _, rfl, rfl, _, _, rfl, rfl, div_ok (by decide) (by decide), ?_⟩
          dsimp only
          rw [hmid]
          refine ⟨_, rfl, _, rfl, _, rfl, _, rfl, _, _, _, _, rfl, rfl, SqL.of hy, at_of rfl hw, o, p, ys[(lo + hi_) / 2], LstV.same TurnAt.st s ho, PairAt.st _ _ _ _ tH hpa, hwa, cmp_of hcol (ff.row p (List.mem_cons_self ..)) (ff.row _ (List.mem_cons_of_mem _ (List.getElem_mem hmlt))), _, rfl, ?_⟩
          -- all behind, ahead of the middle
          have rp : isRow ks p.2 = true := ff.row p (List.mem_cons_self ..)
          have rr : ∀ y ∈ ys, isRow ks y.2 = true := fun y hy => ff.row y (List.mem_cons_of_mem _ hy)
          cases hc : before o p ys[(lo + hi_) / 2] with
          | true =>
            refine ⟨_, rfl, lo, (lo + hi_) / 2, _, by omega, rfl, rfl, by omega, by omega, ha, fun j y hj e => ?_⟩
            have hjl := (List.getElem?_eq_some_iff.mp e).1
            by_cases ej : j = (lo + hi_) / 2
            · subst ej
              rw [List.getElem?_eq_getElem hmlt] at e
              cases e
              exact hc
            · have ey : ys[j] = y := by rw [List.getElem?_eq_getElem hjl] at e; exact Option.some.inj e
              have q := List.pairwise_iff_getElem.mp hu ((lo + hi_) / 2) j hmlt hjl (by omega)
              rw [ey] at q
              exact before_trans o (cmp_of hcol rp (rr _ (List.getElem_mem hmlt))) (cmp_of hcol (rr _ (List.getElem_mem hmlt)) (rr y (List.mem_of_getElem? e))) hc q
          | false =>
            refine ⟨_, rfl, _, _, rfl, rfl, (lo + hi_) / 2 + 1, hi_, _, by omega, rfl, rfl, by omega, by omega, fun j y hj e => ?_, hb⟩
            have hjl := (List.getElem?_eq_some_iff.mp e).1
            by_cases ej : j = (lo + hi_) / 2
            · subst ej
              rw [List.getElem?_eq_getElem hmlt] at e
              cases e
              exact hc
            · have ey : ys[j] = y := by rw [List.getElem?_eq_getElem hjl] at e; exact Option.some.inj e
              have q := List.pairwise_iff_getElem.mp hu j ((lo + hi_) / 2) hjl hmlt (by omega)
              rw [ey] at q
              cases hpy : before o p y with
              | false => rfl
              | true =>
                have t := before_trans o (cmp_of hcol rp (rr y (List.mem_of_getElem? e))) (cmp_of hcol (rr y (List.mem_of_getElem? e)) (rr _ (List.getElem_mem hmlt))) hpy q
                rw [hc] at t
                cases t
      · rw [decide_eq_false hlt]
        have elo : lo = hi_ := by omega
        refine ⟨_, rfl, .inl ⟨rfl, _, SqL.of hy⟩, _, rfl, _, rfl, _, _, _, _, rfl, rfl, hy, szlt (by omega), by omega, by omega, ?_⟩
        have t2 : TupLe H1 (upd H1 f (.lst (yv.take lo ++ [v] ++ yv.drop lo))) := (TupLe.refl H1).list hy
        refine ⟨ys.take lo ++ [p] ++ ys.drop lo, _, _, _, _, rfl, Rs.Same.mut s hn, ⟨_, upd_same, ?_⟩, ?_, put_up hcol ff hu ha (by rw [elo]; exact hb)⟩
        · exact P2.app (P2.app (Paired.tl PairAt.st t2 (P2.take _ hys)) (P2.one (PairAt.st _ _ _ _ (tH.trans t2) hpa))) (Paired.tl PairAt.st t2 (P2.drop _ hys))
        · refine List.Perm.trans ?_ pp
          rw [List.append_assoc]
          refine List.perm_middle.trans ?_
          show (p :: (ys.take lo ++ ys.drop lo)).Perm (p :: ys)
          rw [List.take_append_drop]
    · rintro σ H' ⟨ys, x3, x4, x5, x6, rfl, s, hy, hp, hu⟩
      rw [List.take_of_length_le (by omega)] at hp
      exact ⟨_, rfl, k f ys H' hn hy hp hu s⟩
end Rs

namespace Rs
open PySem PySem.Spec PyProof.Rows L2
structure TxtRoom (K : PySem.W.Frag) : Prop where
  cl : Cls K (He.ga K "Room")
  n_order : NoAttr K (He.ga K "Room") "order"
  n_cells : NoAttr K (He.ga K "Room") "cells"
def f_Room (x0 x1 : V) : List (Str × V) := [(("order" : Str), x0), (("cells" : Str), x1)]
def RoomOb (K : PySem.W.Frag) (H : Hp) (p : Addr) (x0 x1 : V) : Prop := ∃ dx, H p = some (.ins (He.ga K "Room") dx (f_Room x0 x1))
section
variable {K : PySem.W.Frag} {x0 x1 y : V} {H : Hp} {Q : VK} {p : Addr} {D : Ends} {σ : L2.St}
end
structure TxtMaker (K : PySem.W.Frag) : Prop where
  cl : Cls K (He.ga K "Maker")
  n_order : NoAttr K (He.ga K "Maker") "order"
  n_size : NoAttr K (He.ga K "Maker") "size"
  n_room : NoAttr K (He.ga K "Maker") "room"
  n_run : NoAttr K (He.ga K "Maker") "run"
  n_last : NoAttr K (He.ga K "Maker") "last"
def f_Maker (x0 x1 x2 x3 x4 : V) : List (Str × V) := [(("order" : Str), x0), (("size" : Str), x1), (("room" : Str), x2), (("run" : Str), x3), (("last" : Str), x4)]
def MakerOb (K : PySem.W.Frag) (H : Hp) (p : Addr) (x0 x1 x2 x3 x4 : V) : Prop := ∃ dx, H p = some (.ins (He.ga K "Maker") dx (f_Maker x0 x1 x2 x3 x4))
section
variable {K : PySem.W.Frag} {x0 x1 x2 x3 x4 y : V} {H : Hp} {Q : VK} {p : Addr} {D : Ends} {σ : L2.St}
end
section
variable {α : Type} {d : α} {cs : List α} {i j k : Nat}
theorem getD_set (x : α) (hi : i < cs.length) : (cs.set i x).getD k d = if k = i then x else cs.getD k d := by
  rw [List.getD_eq_getElem?_getD, List.getD_eq_getElem?_getD]
  by_cases e : k = i
  · subst e
    rw [if_pos rfl, List.getElem?_set_self hi]
    rfl
  · rw [if_neg e, List.getElem?_set_ne (Ne.symm e)]
theorem getD_lt (hi : i < cs.length) : cs.getD i d = cs[i] := by
  rw [List.getD_eq_getElem?_getD, List.getElem?_eq_getElem hi]
  rfl
theorem getD_mem (hi : i < cs.length) : cs.getD i d ∈ cs := by
  rw [getD_lt hi]
  exact List.getElem_mem hi
end
structure Strict {α : Type} (ok : α → Prop) (lt : α → α → Bool) : Prop where
  asym : ∀ a b, ok a → ok b → lt a b = true → lt b a = false
  neg : ∀ a b c, ok a → ok b → ok c → lt b a = false → lt c b = false → lt c a = false
section
variable {α : Type} {ok : α → Prop} {lt : α → α → Bool} {d : α}
end
abbrev Cell := Int × Pr
def c0 : Cell := (0, 0, [])
theorem before_co : ∀ (o : Ord) {a b c : Pr}, Cmp o a.2 b.2 → Cmp o b.2 c.2 → before o c a = true → before o c b = true ∨ before o b a = true
  | [], a, b, c, _, _, h => by
    simp only [before, decide_eq_true_eq] at h ⊢
    omega
  | t :: o, a, b, c, h1, h2, h => by
    have l1 := h1.head
    have l2 := h2.head
    rw [before_cons] at h
    rw [before_cons, before_cons]
    by_cases e : kcol c.2 t.1 = kcol a.2 t.1
    · rw [if_pos e] at h
      by_cases e2 : kcol c.2 t.1 = kcol b.2 t.1
      · rw [if_pos e2, if_pos (e2.symm.trans e)]
        exact before_co o h1.tail h2.tail h
      · rw [if_neg e2, if_neg (fun z => e2 (e.trans z.symm))]
        have q := keyLt_tot l2.symm e2
        rw [e] at q ⊢
        rw [q]
        cases keyLt (kcol a.2 t.1) (kcol b.2 t.1) <;> cases t.2 <;> simp
    · rw [if_neg e] at h
      by_cases e2 : kcol c.2 t.1 = kcol b.2 t.1
      · right
        rw [if_neg (fun z => e (e2.trans z)), ← e2]
        exact h
      · rw [if_neg e2]
        by_cases e3 : kcol b.2 t.1 = kcol a.2 t.1
        · left
          rw [e3]
          exact h
        · rw [if_neg e3]
          have q1 := keyLt_tot l2.symm e2
          have q2 := keyLt_tot l1.symm e3
          have q3 := keyLt_tot (l2.symm.trans l1.symm) e
          have hb := beq_iff_eq.mp h
          cases ht : t.2 with
          | true =>
            rw [ht] at hb
            cases k1 : keyLt (kcol c.2 t.1) (kcol b.2 t.1) with
            | true => left; rfl
            | false =>
              cases k2 : keyLt (kcol b.2 t.1) (kcol a.2 t.1) with
              | true => right; rfl
              | false =>
                rw [k1] at q1
                rw [k2] at q2
                have tr := keyLt_trans q2 q1
                rw [q3, hb] at tr
                cases tr
          | false =>
            rw [ht] at hb
            cases k1 : keyLt (kcol c.2 t.1) (kcol b.2 t.1) with
            | false => left; rfl
            | true =>
              cases k2 : keyLt (kcol b.2 t.1) (kcol a.2 t.1) with
              | false => right; rfl
              | true =>
                have tr := keyLt_trans k1 k2
                rw [hb] at tr
                cases tr
end Rs

namespace Rs
open PySem PySem.Spec PyProof.Rows L2
def CellAt : Rel Cell := fun H v c => ∃ w, IsTp H v [.int c.1, w] ∧ PairAt H w c.2
theorem CellAt.st : Stable CellAt := fun _ _ _ _ t ⟨w, a, b⟩ => ⟨w, a.mono t, PairAt.st _ _ _ _ t b⟩
structure RoomS (K : PySem.W.Frag) (H : Hp) (p lo lc : Addr) (o : Ord) (cs : List Cell) : Prop where
  ob : RoomOb K H p (.ref lo) (.ref lc)
  ord : Lst TurnAt H lo o
  cells : Lst CellAt H lc cs
  ne : lo ≠ lc
theorem RoomOb.keep {K : PySem.W.Frag} {H H' : Hp} {p : Addr} {x y : V} (h : RoomOb K H p x y) (k : ∀ o, H p = some o → H' p = some o) : RoomOb K H' p x y := let ⟨dx, e⟩ := h; ⟨dx, k _ e⟩
theorem RoomOb.same {K : PySem.W.Frag} {H H' : Hp} {p : Addr} {x y : V} (h : RoomOb K H p x y) (s : Same H H') : RoomOb K H' p x y := h.keep fun o => s p o
theorem But.tupL {H H' : Hp} {l : Addr} {vs : List V} (h : H l = some (.lst vs)) (k : But [l] H H') : TupLe H H' := fun c xs e => k c _ e (by
  intro hm
  rw [List.mem_singleton] at hm
  subst hm
  rw [h] at e
  cases e)
theorem ne1 {a b : Addr} (h : a ≠ b) : a ∉ [b] := fun hm => h (List.mem_singleton.mp hm)
theorem RoomS.same {K : PySem.W.Frag} {H H' : Hp} {p lo lc : Addr} {o : Ord} {cs : List Cell} (h : RoomS K H p lo lc o cs) (s : Same H H') : RoomS K H' p lo lc o cs := ⟨h.ob.same s, h.ord.same TurnAt.st s, h.cells.same CellAt.st s, h.ne⟩
theorem RoomS.plc {K : PySem.W.Frag} {H : Hp} {p lo lc : Addr} {o : Ord} {cs : List Cell} (h : RoomS K H p lo lc o cs) : p ≠ lc := by
  obtain ⟨dx, e⟩ := h.ob
  obtain ⟨vs, e2, _⟩ := h.cells
  exact ne_of e e2 (by intro z; cases z)
theorem RoomS.other {K : PySem.W.Frag} {H H' : Hp} {p lo lc : Addr} {o : Ord} {cs cs' : List Cell} (h : RoomS K H p lo lc o cs) (k : But [lc] H H') (c : Lst CellAt H' lc cs') : RoomS K H' p lo lc o cs' := by
  obtain ⟨vs, e2, _⟩ := h.cells
  have t := But.tupL e2 k
  exact ⟨h.ob.keep fun u e => k _ _ e (ne1 h.plc), h.ord.keep TurnAt.st t fun u e => k _ _ e (ne1 h.ne), c, h.ne⟩
theorem Lst.cell {α : Type} {R : Rel α} {H : Hp} {l : Addr} {xs : List α} (h : Lst R H l xs) {i : Nat} {x : α} (e : xs[i]? = some x) : ∃ vs v, H l = some (.lst vs) ∧ vs[i]? = some v ∧ R H v x := by
  obtain ⟨vs, a, b⟩ := h
  obtain ⟨v, hv, r⟩ := P2.get' b e
  exact ⟨vs, v, a, hv, r⟩
end Rs

namespace Rs
open PySem PySem.Spec PyProof.Rows L2
end Rs

namespace Rs
open PySem PySem.Spec PyProof.Rows L2
def OptAt : Rel (Option Pr) := fun H v q => match q with
  | none => v = .non
  | some p => PairAt H v p
theorem OptAt.st : Stable OptAt := fun H H' v q t h => match q, h with
  | none, h => h
  | some p, h => PairAt.st H H' v p t h
structure MakerS (K : PySem.W.Frag) (H : Hp) (p lo pr lc : Addr) (o : Ord) (size : Int) (cs : List Cell) (run : Int) (last : Option Pr) : Prop where
  ob : ∃ vl, MakerOb K H p (.ref lo) (.int size) (.ref pr) (.int run) vl ∧ OptAt H vl last
  room : RoomS K H pr lo lc o cs
  ne : p ≠ pr
theorem MakerOb.keep {K : PySem.W.Frag} {H H' : Hp} {p : Addr} {x0 x1 x2 x3 x4 : V} (h : MakerOb K H p x0 x1 x2 x3 x4) (k : ∀ o, H p = some o → H' p = some o) : MakerOb K H' p x0 x1 x2 x3 x4 := let ⟨dx, e⟩ := h; ⟨dx, k _ e⟩
theorem MakerS.same {K : PySem.W.Frag} {H H' : Hp} {p lo pr lc : Addr} {o : Ord} {size : Int} {cs : List Cell} {run : Int} {last : Option Pr} (h : MakerS K H p lo pr lc o size cs run last) (s : Same H H') : MakerS K H' p lo pr lc o size cs run last := by
  obtain ⟨vl, ob, hl⟩ := h.ob
  exact ⟨⟨vl, ob.keep fun u => s p u, OptAt.st _ _ _ _ (TupLe.same s) hl⟩, h.room.same s, h.ne⟩
theorem MakerS.plc {K : PySem.W.Frag} {H : Hp} {p lo pr lc : Addr} {o : Ord} {size : Int} {cs : List Cell} {run : Int} {last : Option Pr} (h : MakerS K H p lo pr lc o size cs run last) : p ≠ lc ∧ p ≠ lo := by
  obtain ⟨vl, ⟨dx, e⟩, _⟩ := h.ob
  obtain ⟨vs, e2, _⟩ := h.room.cells
  obtain ⟨os, e3, _⟩ := h.room.ord
  exact ⟨ne_of e e2 (by intro z; cases z), ne_of e e3 (by intro z; cases z)⟩
theorem MakerS.tup {K : PySem.W.Frag} {H H' : Hp} {p lo pr lc : Addr} {o : Ord} {size : Int} {cs : List Cell} {run : Int} {last : Option Pr} (h : MakerS K H p lo pr lc o size cs run last) (k : But [p, lc] H H') : TupLe H H' := fun c xs e => by
  obtain ⟨vl, ⟨dx, e1⟩, _⟩ := h.ob
  obtain ⟨vs, e2, _⟩ := h.room.cells
  exact k c _ e (nn (ne_of e e1 (by intro z; cases z)) (ne_of e e2 (by intro z; cases z)))
def late (o : Ord) (q : Pr) (last : Option Pr) : Bool := match last with
  | none => false
  | some l => before o q l
end Rs

namespace Rs
open PySem PySem.Spec PyProof.Rows L2
def srt (o : Ord) : List Pr → List Pr
  | [] => []
  | x :: xs => mrg o [x] (srt o xs)
def mn (o : Ord) (xs : List Pr) : Pr := (srt o xs).getD 0 c0.2
def outN (n : Int) (xs : List Pr) : List Pr := xs.filter fun q => decide (q.1 ≠ n)
def fillL (o : Ord) (size : Int) (last : Option Pr) : List Pr → List Pr → List Pr → List Pr × List Pr × List Pr
  | [], h, l => ([], h, l)
  | p :: left, h, l => if ((h.length : Int) + (l.length : Int) < size) then (if late o p last then fillL o size last left h (l ++ [p]) else fillL o size last left (h ++ [p]) l) else (p :: left, h, l)
def inner (o : Ord) (size : Int) : Nat → List Pr → List Pr → List Pr → List Pr → List Pr × List Pr × List Pr
  | 0, left, _, l, run => (left, l, run)
  | n + 1, left, h, l, run =>
    if (fillL o size run.getLast? left h l).2.1 = [] then ((fillL o size run.getLast? left h l).1, (fillL o size run.getLast? left h l).2.2, run)
    else inner o size n (fillL o size run.getLast? left h l).1 (outN (mn o (fillL o size run.getLast? left h l).2.1).1 (fillL o size run.getLast? left h l).2.1) (fillL o size run.getLast? left h l).2.2 (run ++ [mn o (fillL o size run.getLast? left h l).2.1])
def outer (o : Ord) (size : Int) : Nat → List Pr → List Pr → List (List Pr) → List (List Pr)
  | 0, _, _, found => found
  | n + 1, left, l, found => if left = [] ∧ l = [] then found else
    outer o size n (inner o size (left.length + l.length + 1) left l [] []).1 (inner o size (left.length + l.length + 1) left l [] []).2.1 (found ++ [(inner o size (left.length + l.length + 1) left l [] []).2.2])
end Rs

namespace Rs
open PySem PySem.Spec PyProof.Rows L2
def cells (k : Int) (h l : List Pr) : List Cell := h.map (fun q => (k, q)) ++ l.map fun q => (k + 1, q)
def keyD : Key → PyData
  | .inl i => .int i
  | .inr s => .str s
def rowD (r : Row) : PyData := .tuple (r.map keyD)
def pairD (p : Pr) : PyData := .tuple [.int p.1, rowD p.2]
def runD (xs : List Pr) : PyData := .list (xs.map pairD)
def runsD (rs : List (List Pr)) : PyData := .list (rs.map runD)
section
variable {K : PySem.W.Frag} {H : Hp}
theorem dpAll {α : Type} {R : Rel α} {f : α → PyData} (hf : ∀ v x, R H v x → Dp K H v (f x)) : ∀ {vs : List V} {xs : List α}, Paired (R H) vs xs → DpAll K H vs (xs.map f)
  | _, _, .nil => .nil
  | _, _, .cons h t => .cons (hf _ _ h) (dpAll hf t)
theorem key_dp (x : Key) : Dp K H (kV x) (keyD x) := by
  cases x
  · exact .int _
  · exact .str _
theorem keys_dp : ∀ r : Row, DpAll K H (r.map kV) (r.map keyD)
  | [] => .nil
  | x :: r => .cons (key_dp x) (keys_dp r)
theorem row_dp {v : V} {r : Row} (h : RowAt H v r) : Dp K H v (rowD r) := by
  obtain ⟨a, rfl, e⟩ := h
  exact .tup (SqT.of e) (keys_dp r)
theorem pair_dp {v : V} {p : Pr} (h : PairAt H v p) : Dp K H v (pairD p) := by
  obtain ⟨w, ⟨a, rfl, e⟩, hr⟩ := h
  exact .tup (SqT.of e) (.cons (.int _) (.cons (row_dp hr) .nil))
theorem lst_dp {α : Type} {R : Rel α} {f : α → PyData} (hf : ∀ v x, R H v x → Dp K H v (f x)) {l : Addr} {xs : List α} (h : Lst R H l xs) : Dp K H (.ref l) (.list (xs.map f)) := by
  obtain ⟨vs, e, p⟩ := h
  exact .lst (SqL.of e) (dpAll hf p)
theorem run_dp {N : Addr → Prop} {v : V} {xs : List Pr} (h : ∃ l, v = .ref l ∧ N l ∧ Lst PairAt H l xs) : Dp K H v (runD xs) := by
  obtain ⟨l, rfl, _, h⟩ := h
  exact lst_dp (fun _ _ => pair_dp) h
end
def okD : Nat → PyData → Prop
  | 0, _ => False
  | _ + 1, .none => True
  | _ + 1, .bool _ => True
  | _ + 1, .int _ => True
  | _ + 1, .str x => PyData.strOk x = true
  | n + 1, .list ds => ds.length ≤ 100000 ∧ ∀ d ∈ ds, okD n d
  | n + 1, .tuple ds => ds.length ≤ 100000 ∧ ∀ d ∈ ds, okD n d
  | _ + 1, _ => False
theorem okD.up : ∀ {n : Nat} {d : PyData}, okD n d → okD (n + 1) d
  | 0, _, h => h.elim
  | n + 1, .none, _ => trivial
  | n + 1, .bool _, _ => trivial
  | n + 1, .int _, _ => trivial
  | n + 1, .str _, h => h
  | n + 1, .list ds, h => ⟨h.1, fun d hd => okD.up (h.2 d hd)⟩
  | n + 1, .tuple ds, h => ⟨h.1, fun d hd => okD.up (h.2 d hd)⟩
theorem okD.ups {n : Nat} {d : PyData} (h : okD n d) : ∀ k, okD (n + k) d
  | 0 => h
  | k + 1 => okD.up (okD.ups h k)
theorem letters_ok : ∀ c ∈ letters, c < 0x110000 := by decide +kernel
theorem value_ok {k : Str} {x : Key} (h : isValue k x = true) (n : Nat) : okD (n + 1) (keyD x) := by
  cases x with
  | inl i => trivial
  | inr s =>
    simp only [isValue, Bool.and_eq_true, List.all_eq_true, decide_eq_true_eq] at h
    show PyData.strOk s = true
    unfold PyData.strOk
    rw [Array.all_eq_true_iff_forall_mem]
    intro c hc
    exact decide_eq_true (letters_ok c (h.2.2 c (Array.mem_toList_iff.mpr hc)))
theorem row_ok {ks : List Str} {r : Row} (h : isRow ks r = true) (hk : ks.length ≤ 100000) (n : Nat) : okD (n + 2) (rowD r) := ⟨by rw [List.length_map, isRow_len h]; exact hk, fun d hd => by
  obtain ⟨x, hx, rfl⟩ := List.mem_map.mp hd
  obtain ⟨i, hi, e⟩ := List.mem_iff_getElem.mp hx
  have hi2 : i < ks.length := by rw [← isRow_len h]; exact hi
  have v := isRow_val h hi2
  have e2 : kcol r i = x := by
    have q := kcol_get hi
    rw [List.getElem?_eq_getElem hi, e] at q
    exact (Option.some.inj q).symm
  rw [e2] at v
  exact value_ok v n⟩
theorem pair_ok {ks : List Str} {p : Pr} (h : isRow ks p.2 = true) (hk : ks.length ≤ 100000) (n : Nat) : okD (n + 3) (pairD p) := ⟨by show 2 ≤ 100000; decide, fun d hd => by
  rcases List.mem_cons.mp hd with e | e
  · subst e; trivial
  · rw [List.mem_singleton.mp e]; exact row_ok h hk n⟩
theorem list_ok {α : Type} {f : α → PyData} {xs : List α} {n : Nat} (h : xs.length ≤ 100000) (hf : ∀ x ∈ xs, okD n (f x)) : okD (n + 1) (.list (xs.map f)) := ⟨by rw [List.length_map]; exact h, fun d hd => by
  obtain ⟨x, hx, rfl⟩ := List.mem_map.mp hd
  exact hf x hx⟩
mutual
theorem okD.lay : ∀ (n : Nat) (d : PyData), okD n d → d.canLay0 = true ∧ d.depth ≤ n
  | 0, _, h => h.elim
  | n + 1, .none, _ => ⟨rfl, by simp [PyData.depth]⟩
  | n + 1, .bool _, _ => ⟨rfl, by simp [PyData.depth]⟩
  | n + 1, .int _, _ => ⟨rfl, by simp [PyData.depth]⟩
  | n + 1, .str _, h => ⟨h, by simp [PyData.depth]⟩
  | n + 1, .list ds, h => by
    have := okD.layAll n ds h.2
    simp [PyData.canLay0, PyData.depth, this.1]
    omega
  | n + 1, .tuple ds, h => by
    have := okD.layAll n ds h.2
    simp [PyData.canLay0, PyData.depth, this.1]
    omega
theorem okD.layAll : ∀ (n : Nat) (ds : List PyData), (∀ d ∈ ds, okD n d) → PyData.canLayAll0 ds = true ∧ PyData.depthAll ds ≤ n
  | n, [], _ => ⟨rfl, by simp [PyData.depthAll]⟩
  | n, d :: ds, h => by
    have h1 := okD.lay n d (h d (List.mem_cons_self ..))
    have h2 := okD.layAll n ds fun e he => h e (List.mem_cons_of_mem _ he)
    simp [PyData.canLayAll0, PyData.depthAll, h1.1, h2.1]
    omega
end
theorem okD.shaped {n : Nat} {d : PyData} (h : okD n d) (hn : n ≤ 64) : SeqAt.shaped d = true := by
  have q := okD.lay n d h
  unfold SeqAt.shaped
  rw [q.1, decide_eq_true (Nat.le_trans q.2 hn)]
  rfl
theorem okD.eqv {n : Nat} {d : PyData} (h : okD n d) : PyData.eqv d d = true := SeqAt.eqv_refl d (okD.lay n d h).1
end Rs

namespace Rs
open PySem PySem.Spec PyProof.Rows L2
def RunAt (H0 : Hp) (S : List Addr) : Rel (List Pr) := fun H v xs => ∃ l, v = .ref l ∧ H0 l = none ∧ l ∉ S ∧ Lst PairAt H l xs
section
variable {H0 H H' : Hp} {S S' : List Addr} {v : V} {xs : List Pr} {x l lf : Addr} {found : List (List Pr)}
theorem RunAt.keep (h : RunAt H0 S H v xs) (t : TupLe H H') (k : ∀ l, H0 l = none → l ∉ S → ∀ o, H l = some o → H' l = some o) : RunAt H0 S H' v xs := let ⟨l, e, a, b, c⟩ := h; ⟨l, e, a, b, c.keep PairAt.st t (k l a b)⟩
theorem RunAt.sub (h : RunAt H0 S H v xs) (k : ∀ y ∈ S', y ∈ S) : RunAt H0 S' H v xs := let ⟨l, e, a, b, c⟩ := h; ⟨l, e, a, fun z => b (k _ z), c⟩
theorem RunAt.new (h : RunAt H0 S H v xs) (hx : H x = none) : RunAt H0 (x :: S) H v xs := by
  obtain ⟨l, e, a, b, c⟩ := h
  refine ⟨l, e, a, fun z => ?_, c⟩
  obtain ⟨vs, q, _⟩ := c
  rcases List.mem_cons.mp z with z | z
  · rw [z, hx] at q; cases q
  · exact b z
theorem Runs.sub (h : Lst (RunAt H0 S) H lf found) (k : ∀ y ∈ S', y ∈ S) : Lst (RunAt H0 S') H lf found := let ⟨vs, a, b⟩ := h; ⟨vs, a, P2.mono (fun _ _ q => q.sub k) b⟩
theorem Runs.new (h : Lst (RunAt H0 S) H lf found) (hx : H x = none) : Lst (RunAt H0 (x :: S)) H lf found := let ⟨vs, a, b⟩ := h; ⟨vs, a, P2.mono (fun _ _ q => q.new hx) b⟩
theorem Runs.same (h : Lst (RunAt H0 S) H lf found) (s : Same H H') : Lst (RunAt H0 S) H' lf found := let ⟨vs, a, b⟩ := h; ⟨vs, s _ _ a, P2.mono (fun _ _ q => q.keep (TupLe.same s) fun l _ _ => s l) b⟩
theorem Runs.put {ys : List V} {u : HO} (h : Lst (RunAt H0 S) H lf found) (hx : H x = some (.lst ys)) (hs : x ∈ S) (n : lf ≠ x) : Lst (RunAt H0 S) (upd H x u) lf found := let ⟨vs, a, b⟩ := h; ⟨vs, up a n, P2.mono (fun _ _ q => q.keep ((TupLe.refl H).list hx) fun l _ hl o e => up e fun z => hl (by rw [z]; exact hs)) b⟩
theorem Lst.off {ys : List V} {u : HO} (h : Lst PairAt H l xs) (hx : H x = some (.lst ys)) (n : l ≠ x) : Lst PairAt (upd H x u) l xs := h.keep PairAt.st ((TupLe.refl H).list hx) fun o e => up e n
theorem Lst.on {ys vs : List V} (hx : H l = some (.lst ys)) (p : Paired (PairAt H) vs xs) : Lst PairAt (upd H l (.lst vs)) l xs := ⟨vs, upd_same, Paired.tl PairAt.st ((TupLe.refl H).list hx) p⟩
end
structure LR (H0 H : Hp) (a b c d e : Addr) (left here late : List Pr) (found : List (List Pr)) (run : List Pr) : Prop where
  same : Same H0 H
  fr : ∀ x ∈ [a, b, c, d, e], H0 x = none
  nd : [a, b, c, d, e].Nodup
  la : Lst PairAt H a left
  lb : Lst PairAt H b here
  lc : Lst PairAt H c late
  ld : Lst (RunAt H0 [a, b, c, d, e]) H d found
  le : Lst PairAt H e run
section
variable {H0 H H' : Hp} {a b c d e : Addr} {left here late left' here' late' : List Pr} {found : List (List Pr)} {run run' : List Pr} {vs : List V}
theorem nd5 (h : [a, b, c, d, e].Nodup) : ((a ≠ b ∧ a ≠ c ∧ a ≠ d ∧ a ≠ e) ∧ (b ≠ c ∧ b ≠ d ∧ b ≠ e) ∧ (c ≠ d ∧ c ≠ e) ∧ d ≠ e) := by simpa using h
theorem LR.on (L : LR H0 H a b c d e left here late found run) (s : Same H H') : LR H0 H' a b c d e left here late found run := ⟨L.same.trans s, L.fr, L.nd, L.la.same PairAt.st s, L.lb.same PairAt.st s, L.lc.same PairAt.st s, Runs.same L.ld s, L.le.same PairAt.st s⟩
theorem LR.pa (L : LR H0 H a b c d e left here late found run) (p : Paired (PairAt H) vs left') : LR H0 (upd H a (.lst vs)) a b c d e left' here late found run := by
  obtain ⟨⟨ab, ac, ad, ae⟩, ⟨bc, bd, be⟩, ⟨cd, ce⟩, de⟩ := nd5 L.nd
  obtain ⟨ys, hx, _⟩ := L.la
  exact ⟨Rs.Same.mut L.same (L.fr _ (by simp)), L.fr, L.nd, Lst.on hx p, L.lb.off hx ab.symm, L.lc.off hx ac.symm, Runs.put L.ld hx (by simp) ad.symm, L.le.off hx ae.symm⟩
theorem LR.pb (L : LR H0 H a b c d e left here late found run) (p : Paired (PairAt H) vs here') : LR H0 (upd H b (.lst vs)) a b c d e left here' late found run := by
  obtain ⟨⟨ab, ac, ad, ae⟩, ⟨bc, bd, be⟩, ⟨cd, ce⟩, de⟩ := nd5 L.nd
  obtain ⟨ys, hx, _⟩ := L.lb
  exact ⟨Rs.Same.mut L.same (L.fr _ (by simp)), L.fr, L.nd, L.la.off hx ab, Lst.on hx p, L.lc.off hx bc.symm, Runs.put L.ld hx (by simp) bd.symm, L.le.off hx be.symm⟩
theorem LR.pe (L : LR H0 H a b c d e left here late found run) (p : Paired (PairAt H) vs run') : LR H0 (upd H e (.lst vs)) a b c d e left here late found run' := by
  obtain ⟨⟨ab, ac, ad, ae⟩, ⟨bc, bd, be⟩, ⟨cd, ce⟩, de⟩ := nd5 L.nd
  obtain ⟨ys, hx, _⟩ := L.le
  exact ⟨Rs.Same.mut L.same (L.fr _ (by simp)), L.fr, L.nd, L.la.off hx ae, L.lb.off hx be, L.lc.off hx ce, Runs.put L.ld hx (by simp) de, Lst.on hx p⟩
end
end Rs

namespace Rs
open PySem PySem.Spec PyProof.Rows L2
theorem KindsAt.st : Stable KindsAt := fun _ _ _ _ t h => IsTp.mono t h
theorem KindsAt.same {H H' : Hp} {v : V} {ks : List Str} (h : KindsAt H v ks) (s : Same H H') : KindsAt H' v ks := KindsAt.st _ _ _ _ (TupLe.same s) h
def slc (size : Int) (xs : List Pr) (i : Nat) : List Pr := (xs.drop (i * size.toNat)).take size.toNat
def nslc (size : Int) (n : Nat) : Nat := (((n : Int) + size - 1) / size).toNat
def parts (o : Ord) (size : Int) (xs : List Pr) : List (List Pr) := (List.range (nslc size xs.length)).map fun i => srt o (slc size xs i)
end Rs

namespace Rs
open PySem PySem.Spec PyProof.Rows L2
structure EX (K : PySem.W.Frag) (H0 H : Hp) (p lo pr lc a d e : Addr) (o : Ord) (size : Int) (cs : List Cell) (k : Int) (last : Option Pr) (left : List Pr) (found : List (List Pr)) (run : List Pr) : Prop where
  same : Same H0 H
  fr : ∀ x ∈ [p, lc, a, d, e], H0 x = none
  nd : [lc, a, d, e].Nodup
  mm : MakerS K H p lo pr lc o size cs k last
  la : Lst PairAt H a left
  ld : Lst (RunAt H0 [lc, a, d, e]) H d found
  le : Lst PairAt H e run
section
variable {K : PySem.W.Frag} {H0 H H' : Hp} {p lo pr lc a d e : Addr} {o : Ord} {size : Int} {cs cs' : List Cell} {k k' : Int} {last last' : Option Pr} {left left' : List Pr} {found : List (List Pr)} {run run' : List Pr} {vs : List V}
theorem nd4 (h : [lc, a, d, e].Nodup) : ((lc ≠ a ∧ lc ≠ d ∧ lc ≠ e) ∧ (a ≠ d ∧ a ≠ e) ∧ d ≠ e) := by simpa using h
theorem MakerS.nl (M : MakerS K H p lo pr lc o size cs k last) {x : Addr} {ys : List V} (h : H x = some (.lst ys)) : x ≠ p ∧ x ≠ pr := by
  obtain ⟨vl, ⟨dx, e⟩, _⟩ := M.ob
  obtain ⟨dr, e2⟩ := M.room.ob
  exact ⟨ne_of h e (by intro z; cases z), ne_of h e2 (by intro z; cases z)⟩
theorem EX.on (L : EX K H0 H p lo pr lc a d e o size cs k last left found run) (s : Same H H') : EX K H0 H' p lo pr lc a d e o size cs k last left found run := ⟨L.same.trans s, L.fr, L.nd, L.mm.same s, L.la.same PairAt.st s, Runs.same L.ld s, L.le.same PairAt.st s⟩
theorem MakerS.put (M : MakerS K H p lo pr lc o size cs k last) (s0 : Same H0 H) {x : Addr} {ys vs : List V} (h : H x = some (.lst ys)) (n1 : x ≠ lc) (n2 : x ≠ lo) : MakerS K (upd H x (.lst vs)) p lo pr lc o size cs k last := by
  have t : TupLe H (upd H x (.lst vs)) := (TupLe.refl H).list h
  obtain ⟨vl, ob, hv⟩ := M.ob
  obtain ⟨xp, xr⟩ := M.nl h
  exact ⟨⟨vl, ob.keep fun u e => up e xp.symm, OptAt.st _ _ _ _ t hv⟩, ⟨M.room.ob.keep fun u e => up e xr.symm, M.room.ord.keep TurnAt.st t fun u e => up e n2.symm, M.room.cells.keep CellAt.st t fun u e => up e n1.symm, M.room.ne⟩, M.ne⟩
theorem EX.pa (L : EX K H0 H p lo pr lc a d e o size cs k last left found run) (n : a ≠ lo) (q : Paired (PairAt H) vs left') : EX K H0 (upd H a (.lst vs)) p lo pr lc a d e o size cs k last left' found run := by
  obtain ⟨⟨q1, q2, q3⟩, ⟨q4, q5⟩, q6⟩ := nd4 L.nd
  obtain ⟨ys, hx, _⟩ := L.la
  exact ⟨Rs.Same.mut L.same (L.fr _ (by simp)), L.fr, L.nd, L.mm.put L.same hx q1.symm n, Lst.on hx q, Runs.put L.ld hx (by simp) q4.symm, L.le.off hx q5.symm⟩
theorem EX.pe (L : EX K H0 H p lo pr lc a d e o size cs k last left found run) (n : e ≠ lo) (q : Paired (PairAt H) vs run') : EX K H0 (upd H e (.lst vs)) p lo pr lc a d e o size cs k last left found run' := by
  obtain ⟨⟨q1, q2, q3⟩, ⟨q4, q5⟩, q6⟩ := nd4 L.nd
  obtain ⟨ys, hx, _⟩ := L.le
  exact ⟨Rs.Same.mut L.same (L.fr _ (by simp)), L.fr, L.nd, L.mm.put L.same hx q3.symm n, L.la.off hx q5, Runs.put L.ld hx (by simp) q6, Lst.on hx q⟩
end
end Rs

namespace Rs
open PySem PySem.Spec PyProof.Rows L2
abbrev N_law_alike : List Str := ["_law_found", "_law_due", "_law_k"]
abbrev P_law_alike : List Str := ["_law_found", "_law_due"]
def okA : Nat → PyData → Prop
  | 0, _ => False
  | _ + 1, .none => True
  | _ + 1, .bool _ => True
  | _ + 1, .int _ => True
  | _ + 1, .str _ => True
  | n + 1, .list ds => ds.length ≤ 100000 ∧ ∀ d ∈ ds, okA n d
  | n + 1, .tuple ds => ds.length ≤ 100000 ∧ ∀ d ∈ ds, okA n d
  | _ + 1, _ => False
theorem okD.a : ∀ {n : Nat} {d : PyData}, okD n d → okA n d
  | 0, _, h => h.elim
  | n + 1, .none, _ => trivial
  | n + 1, .bool _, _ => trivial
  | n + 1, .int _, _ => trivial
  | n + 1, .str _, _ => trivial
  | n + 1, .list ds, h => ⟨h.1, fun d hd => okD.a (h.2 d hd)⟩
  | n + 1, .tuple ds, h => ⟨h.1, fun d hd => okD.a (h.2 d hd)⟩
theorem okA.up : ∀ {n : Nat} {d : PyData}, okA n d → okA (n + 1) d
  | 0, _, h => h.elim
  | n + 1, .none, _ => trivial
  | n + 1, .bool _, _ => trivial
  | n + 1, .int _, _ => trivial
  | n + 1, .str _, _ => trivial
  | n + 1, .list ds, h => ⟨h.1, fun d hd => okA.up (h.2 d hd)⟩
  | n + 1, .tuple ds, h => ⟨h.1, fun d hd => okA.up (h.2 d hd)⟩
theorem okA.ups {n : Nat} {d : PyData} (h : okA n d) : ∀ k, okA (n + k) d
  | 0 => h
  | k + 1 => okA.up (okA.ups h k)
theorem okA.to {n m : Nat} {d : PyData} (h : okA n d) (l : n ≤ m) : okA m d := by
  have := h.ups (m - n)
  rwa [show n + (m - n) = m by omega] at this
def spr_law_alike (K : PySem.W.Frag) (n : Nat) : Sp := fun vs H Q E => match vs with
  | [x, y] => ∃ d, okA n d ∧ Dp K H x d ∧ Dp K H y d ∧ Q (.bl true) H
  | _ => False
abbrev sp_law_alike (K : PySem.W.Frag) : Sp := spr_law_alike K 45
theorem len_law_alike (K : PySem.W.Frag) : ∀ d vs H Q E, spr_law_alike K d vs H Q E → vs.length = 2 := fun d vs H Q E h => by
  unfold spr_law_alike at h
  match vs, h with
  | [_, _], _ => rfl
theorem no_law_alike (K : PySem.W.Frag) : ∀ vs H Q E, ¬ spr_law_alike K 0 vs H Q E := fun vs H Q E h => by
  unfold spr_law_alike at h
  match vs, h with
  | [_, _], ⟨d, h, _⟩ => exact h
def t_law_alike (K : PySem.W.Frag) (sp : Sp) (E : XK) : TS := (tSeq (tIfS (tTest (tOpC rIsN (tVar 1) .non)) (tRet (tOpC rIsN (tVar 0) .non)) tNext)
  (tSeq (tIfS (tB (tIsi K "bool" (tVar 1))) (tRet (tAndV (tIsi K "bool" (tVar 0)) (tOp rEq (tVar 0) (tVar 1)))) tNext)
   (tSeq (tIfS (tB (tIsi K "int" (tVar 1))) (tRet (tAndV (tIsi K "int" (tVar 0)) (tAndV (tNotV (tIsi K "bool" (tVar 0))) (tOp rEq (tVar 0) (tVar 1))))) tNext)
    (tSeq (tIfS (tB (tIsi K "str" (tVar 1))) (tRet (tAndV (tIsi K "str" (tVar 0)) (tOp rEq (tVar 0) (tVar 1)))) tNext)
     (tSeq (tIfS (tOr (tTest (tOp rNe (tIsi K "tuple" (tVar 1)) (tIsi K "tuple" (tVar 0)))) (tTest (tOp rNe (tIsi K "list" (tVar 1)) (tIsi K "list" (tVar 0))))) (tRet (tC (.bl false))) tNext)
      (tSeq (tIfS (tTest (tOp rNe (tCB1 (xLen K) (tVar 0)) (tCB1 (xLen K) (tVar 1)))) (tRet (tC (.bl false))) tNext)
       (tSeq (tFor (iRng1 (tCons (tCB1 (xLen K) (tVar 1)) tNil)) (gName 2) 
          (tIfS (tNot (tB (tCall sp [] E (tCons (tOp (rIx K) (tVar 0) (tVar 2)) (tCons (tOp (rIx K) (tVar 1) (tVar 2)) tNil))))) (tRet (tC (.bl false))) tNext))
        (tRet (tC (.bl true))))))))))
theorem tyL {K : PySem.W.Frag} {H : Hp} {a : Addr} {xs : List V} (h : SqL K H a xs) : TyX K H (.ref a) (.type "list") := by
  rcases h with (h | ⟨o, h⟩) | ⟨o, its, n, h, c, _⟩
  · exact .base (.lst h)
  · exact .base (.frz h)
  · exact .kList h c
theorem tyT {K : PySem.W.Frag} {H : Hp} {a : Addr} {xs : List V} (h : SqT K H a xs) : TyX K H (.ref a) (.type "tuple") := by
  rcases h with (h | ⟨o, h⟩) | ⟨o, its, n, h, c, _⟩
  · exact .base (.tup h)
  · exact .fTuple h
  · exact .kTuple h c
theorem dpAll_len {K : PySem.W.Frag} {H : Hp} : ∀ {vs : List V} {ds : List PyData}, DpAll K H vs ds → vs.length = ds.length
  | _, _, .nil => rfl
  | _, _, .cons _ t => by rw [List.length_cons, List.length_cons, dpAll_len t]
theorem dpAll_get {K : PySem.W.Frag} {H : Hp} : ∀ {vs : List V} {ds : List PyData}, DpAll K H vs ds → ∀ {i : Nat} {d : PyData}, ds[i]? = some d → ∃ v, vs[i]? = some v ∧ Dp K H v d
  | _, _, .nil, _, _, e => by simp at e
  | _, _, .cons h t, 0, d, e => by simp at e; subst e; exact ⟨_, rfl, h⟩
  | _, _, .cons h t, i + 1, d, e => by simpa using dpAll_get t (i := i) (by simpa using e)
theorem pure_law_alike {K : PySem.W.Frag} (d : Nat) : ∀ vs H Q E, spr_law_alike K (d + 1) vs H Q E → t_law_alike K (spr_law_alike K d) E { nx := fun _ H' => Q .non H', rt := Q } (start N_law_alike vs) H := by
  intro vs H Q E h
  unfold spr_law_alike at h
  match vs, h with
  | [x, y], ⟨z, ok, hx, hy, k⟩ =>
    -- two rows of items
    have tail : ∀ (a b : Addr) (xs ys : List V) (ds : List PyData), (SqL K H a xs ∨ SqT K H a xs) → (SqL K H b ys ∨ SqT K H b ys) → DpAll K H xs ds → DpAll K H ys ds → ds.length ≤ 100000 → (∀ e ∈ ds, okA d e) →
        ((tSeq (tIfS (tTest (tOp rNe (tCB1 (xLen K) (tVar 0)) (tCB1 (xLen K) (tVar 1)))) (tRet (tC (.bl false))) tNext)
          (tSeq (tFor (iRng1 (tCons (tCB1 (xLen K) (tVar 1)) tNil)) (gName 2) (tIfS (tNot (tB (tCall (spr_law_alike K d) [] E (tCons (tOp (rIx K) (tVar 0) (tVar 2)) (tCons (tOp (rIx K) (tVar 1) (tVar 2)) tNil))))) (tRet (tC (.bl false))) tNext))
            (tRet (tC (.bl true))))) : TS) { nx := fun _ H' => Q .non H', rt := Q } [some (.ref a), some (.ref b), none] H := by
      intro a b xs ys ds ha hb dx dy hl hok
      have lx := dpAll_len dx
      have ly := dpAll_len dy
      refine ⟨_, rfl, a, xs, rfl, ha, _, rfl, b, ys, rfl, hb, rfl, _, rfl, ?_⟩
      have e : (!decide (V.int (xs.length : Int) = V.int (ys.length : Int))) = false := by rw [lx, ly]; simp
      rw [e]
      refine ⟨_, rfl, b, ys, rfl, hb, _, rfl, by omega, by omega, ?_⟩
      refine for_range (lo := 0) (n := (ys.length : Int).toNat) (fun i σ H' => H' = H ∧ ∃ x2, σ = [some (.ref a), some (.ref b), x2]) ⟨rfl, none, rfl⟩ ?_ ?_
      · rintro i σ H' hi ⟨rfl, x2, rfl⟩
        have hid : i < ds.length := by omega
        have hd := List.getElem?_eq_getElem hid
        obtain ⟨vx, gx, px⟩ := dpAll_get dx hd
        obtain ⟨vy, gy, py⟩ := dpAll_get dy hd
        have ix : ∀ {a : Addr} {xs : List V} {v : V} {Q : VK}, (SqL K H' a xs ∨ SqT K H' a xs) → xs[i]? = some v → Q v H' → rIx K (.ref a) (.int (0 + (i : Int))) H' Q := fun h g q => by
          rcases h with h | h
          · exact .inl ⟨_, _, _, _, rfl, rfl, h, at_of (j := i) (by omega) g, q⟩
          · exact .inr (.inl ⟨_, _, _, _, rfl, rfl, h, at_of (j := i) (by omega) g, q⟩)
        refine ⟨_, rfl, _, rfl, ix ha gx ⟨_, rfl, _, rfl, ix hb gy ?_⟩⟩
        exact ⟨ds[i], hok _ (List.getElem_mem hid), px, py, _, rfl, rfl, _, rfl⟩
      · rintro σ H' ⟨rfl, x2, rfl⟩
        exact k
    cases hx with
    | non =>
      cases hy
      exact ⟨_, rfl, rfl, _, rfl, _, rfl, rfl, k⟩
    | bl b =>
      cases hy
      refine ⟨_, rfl, rfl, _, rfl, _, rfl, isi_go (t := "bool") (b := true) (.base (.bl b)) (by decide +kernel) ⟨_, rfl, _, rfl, isi_go (t := "bool") (b := true) (.base (.bl b)) (by decide +kernel) ⟨_, rfl, _, rfl, _, rfl, rfl, ?_⟩⟩⟩
      rw [decide_eq_true rfl]
      exact k
    | int b =>
      cases hy
      refine ⟨_, rfl, rfl, _, rfl, _, rfl, isi_go (t := "int") (b := false) (.base (.int b)) (by decide +kernel) ⟨_, rfl, _, rfl, isi_go (t := "int") (b := true) (.base (.int b)) (by decide +kernel) ⟨_, rfl, _, rfl, isi_go (t := "int") (b := true) (.base (.int b)) (by decide +kernel) ⟨_, rfl, _, rfl, isi_go (t := "int") (b := false) (.base (.int b)) (by decide +kernel) ⟨_, rfl, _, rfl, _, rfl, _, rfl, rfl, ?_⟩⟩⟩⟩⟩
      rw [decide_eq_true rfl]
      exact k
    | str b =>
      cases hy
      refine ⟨_, rfl, rfl, _, rfl, _, rfl, isi_go (t := "str") (b := false) (.base (.str b)) (by decide +kernel) ⟨_, rfl, _, rfl, isi_go (t := "str") (b := false) (.base (.str b)) (by decide +kernel) ⟨_, rfl, _, rfl, isi_go (t := "str") (b := true) (.base (.str b)) (by decide +kernel) ⟨_, rfl, _, rfl, isi_go (t := "str") (b := true) (.base (.str b)) (by decide +kernel) ⟨_, rfl, _, rfl, _, rfl, rfl, ?_⟩⟩⟩⟩⟩
      rw [decide_eq_true rfl]
      exact k
    | @lst a xs ds sx dx =>
      cases hy with
      | @lst b ys _ sy dy =>
        obtain ⟨hl, hok⟩ : ds.length ≤ 100000 ∧ ∀ e ∈ ds, okA d e := ok
        refine ⟨_, rfl, rfl, _, rfl, _, rfl, isi_go (t := "list") (b := false) (tyL sy) (by decide +kernel) ⟨_, rfl, _, rfl, isi_go (t := "list") (b := false) (tyL sy) (by decide +kernel) ⟨_, rfl, _, rfl, isi_go (t := "list") (b := false) (tyL sy) (by decide +kernel) ⟨_, rfl, ?_⟩⟩⟩⟩
        refine ⟨_, rfl, isi_go (t := "list") (b := false) (tyL sy) (by decide +kernel) ⟨_, rfl, isi_go (t := "list") (b := false) (tyL sx) (by decide +kernel) ⟨rfl, _, rfl, _, rfl, isi_go (t := "list") (b := true) (tyL sy) (by decide +kernel) ⟨_, rfl, isi_go (t := "list") (b := true) (tyL sx) (by decide +kernel) ⟨rfl, _, rfl, ?_⟩⟩⟩⟩⟩
        exact tail a b xs ys ds (.inl sx) (.inl sy) dx dy hl hok
    | @tup a xs ds sx dx =>
      cases hy with
      | @tup b ys _ sy dy =>
        obtain ⟨hl, hok⟩ : ds.length ≤ 100000 ∧ ∀ e ∈ ds, okA d e := ok
        refine ⟨_, rfl, rfl, _, rfl, _, rfl, isi_go (t := "tuple") (b := false) (tyT sy) (by decide +kernel) ⟨_, rfl, _, rfl, isi_go (t := "tuple") (b := false) (tyT sy) (by decide +kernel) ⟨_, rfl, _, rfl, isi_go (t := "tuple") (b := false) (tyT sy) (by decide +kernel) ⟨_, rfl, ?_⟩⟩⟩⟩
        refine ⟨_, rfl, isi_go (t := "tuple") (b := true) (tyT sy) (by decide +kernel) ⟨_, rfl, isi_go (t := "tuple") (b := true) (tyT sx) (by decide +kernel) ⟨rfl, _, rfl, _, rfl, isi_go (t := "tuple") (b := false) (tyT sy) (by decide +kernel) ⟨_, rfl, isi_go (t := "tuple") (b := false) (tyT sx) (by decide +kernel) ⟨rfl, _, rfl, ?_⟩⟩⟩⟩⟩
        exact tail a b xs ys ds (.inr sx) (.inr sy) dx dy hl hok
end Rs

namespace Rs
open PySem PySem.Spec PyProof.Rows L2
theorem Lst.but {α : Type} {R : Rel α} (st : Stable R) {H H' : Hp} {a l x : Addr} {xs : List α} (B : Box H a l) (k : But [a, l] H H') (L : Lst R H x xs) (n : x ∉ [a, l]) : Lst R H' x xs := L.keep st (B.tup k) fun o e => k _ _ e n
theorem Box.fresh {H : Hp} {a l x : Addr} (B : Box H a l) (h : H x = none) : x ∉ [a, l] := by
  obtain ⟨ns, z, e1, e2, _⟩ := B.ex
  exact nn (ne_of_none e1 h).symm (ne_of_none e2 h).symm
theorem GoodOrd.len {ks : List Str} {o : Ord} (g : GoodOrd ks o) (h : ks.length ≤ 4) : o.length ≤ 4 := by
  have nd := g.nd
  have sub : (o.map (·.1)) ⊆ List.range ks.length := fun x hx => by
    obtain ⟨t, ht, rfl⟩ := List.mem_map.mp hx
    exact List.mem_range.mpr (g.col t ht)
  have := nd.length_le_of_subset sub
  rw [List.length_map, List.length_range] at this
  omega
end Rs

namespace Rs
open PySem PySem.Spec PyProof.Rows L2
section
variable {X : Cx} {W : WX} {E : XK} {k : Nat} {ps : List Str} {sp : Sp} {x m : Str} {e : Expr} {es : List Expr} {t : TA} {p p2 pos pos2 : Pos} {j : Nat}
end
section
variable {X : Cx} {E : XK} {x : Str} {body suite : List Stmt} {b₀ : Stmt} {np pos pos' : Pos} {tb : WX → TS} {ts : TS}
end
end Rs

namespace Rs
open PySem PySem.Spec PyProof.Rows L2 LamX
section
variable {P : Program} {w : World} {K : PySem.W.Frag} {mg : Str → Option Value} {base : Heap}
abbrev cxP (P : Program) (w : World) (K : PySem.W.Frag) (mg : Str → Option Value) (base : Heap) (N : List Str) (ql : Str) (sc : Scope) (g : Addr) (cd : Value) (A : Around) (outer : List Env) (z : Shared) (H : Hp) (a : Addr) (oe : Obj) : Cx :=
  L2H.cxH CX0 P w K mg base N ql sc g cd A outer z H E0 (a, oe)
theorem warm_call {k : Nat} {g : Addr} {nm ql : Str} {pr : Arguments} {bd : List Stmt} {sc : Scope} {dV kV doc pm cdv ct oc : Value} {an od : Option Addr} {osl : Array (Option Value)} {N : List Str} {y : Str} {A : Around} {outer : List Env} {z : Shared} {H : Hp} {Q : VK} {a : Addr} {oe : Obj} {t : TS}
    (lk : K.lookup g = some ⟨oc, od, .func (PySem.W.fnOf nm ql pr bd sc dV kV doc pm an cdv ct), osl⟩) (hcd : PySem.W.codeIn K cdv ql = true) (S : FnScope N [y] sc) (hr : L2H.RoomH (k + 1) A) (e0 : Env0 P w K mg base A outer z H) (hpin : L2H.PinOk outer H z (a, oe))
    (hb : BindsTo z (PySem.W.fnOf nm ql pr bd sc dV kV doc pm an cdv ct) ⟨[.ref a], []⟩ [(y, .ref a)]) (hbody : PSs (cxP P w K mg base N ql sc g cdv A outer z H a oe) bd t) (hq : t { nx := fun _ H' => Q .non H', rt := Q } (L2.start N [.ref a]) H) :
    codeAny (model P w) A (.call (.ref g) ⟨[.ref a], []⟩) (CR CX0 outer P w H z Q E0) z := by
  have KZ : K.In z.heap := e0.mod.kin.keeps fun b o e => (e0.bs b o e).1
  have lm : z.heap.NoLimit := e0.mod.nolimit.keeps fun b o e => (e0.bs b o e).1
  have hk : ∀ n ∈ [(y, Value.ref a)], sc.names.lookup n.1 = some .local ∨ (sc.names.lookup n.1 = some .cell ∧ ((cellsFrom (z.heap.objs.size + 1) sc.names []).lookup n.1).isSome = true) := fun n hn => by
    have en : n = (y, Value.ref a) := by simpa using hn
    rw [en]
    rcases S.par y (by simp) with q | q
    · exact .inl q
    · exact .inr ⟨q, PySem.W.cellsFrom_some _ _ _ (.inl q)⟩
  refine codeAny_call_function hr.depth (KZ _ _ lk) rfl S.co S.gen rfl (PySem.W.codeRec_of KZ hcd) (hb _ _ _ _ (wpAny_newFunctionEnv_cells S.kind hk fun env he z1 x => ?_))
  subst he
  refine ⟨lm.keeps x.toInCall.keep, codeAny_func (wpAny_mono (hbody.run [] z1 (L2.start N [.ref a]) H _ (L2H.inv_startH (us := [.ref a]) (vs := [.ref a]) S hpin e0 rfl (.cons rfl .nil) x) hq) (fun fl z' hs => ?_) fun e z' hs => hs)⟩
  cases fl with
  | ret u =>
    obtain ⟨v, σ', H', J, rv, q⟩ := hs
    exact ⟨v, H', J.os, J.bare, J.base, J.hok, rv, q⟩
  | next =>
    obtain ⟨σ', H', J, q⟩ := hs
    exact ⟨.non, H', J.os, J.bare, J.base, J.hok, rfl, q⟩
  | brk => exact hs.elim fun _ h => h.elim fun _ h => h.2.elim
  | cont => exact hs.elim fun _ h => h.elim fun _ h => h.2.elim
end
section
variable {prog : Program} {w : World} {A : Around} {E : Value → Shared → Prop} {z : Shared} {K : PySem.W.Frag} {p D : Addr} {op : Obj} {od : Option Obj}
open PySem.W PySem.Calls in
theorem found_class (C : ExcC K D) : findObj K D od "__class__" = some (.bind (.builtin "getset_descriptor.__get__") (.builtin "object.__class__")) := by
  obtain ⟨cd, hc, _⟩ := any_some C.hd
  have e1 := C.ha
  have e2 := C.hn
  have e3 := C.ht
  unfold findObj
  rw [hc, Option.bind_some, e1, Option.bind_some]
  simp [e2, e3]
open PySem.W PySem.Calls in
theorem ask_class {Q : Option Value → Shared → Prop} (C : ExcC K D) (KI : K.In z.heap) (J : InstAt z.heap p op D od) (q : Q (some (.ref D)) { z with toks := z.toks + 1 }) : wpAny (model prog w) A (getAttr? (.ref p) "__class__") Q E z := by
  have fo := found_class (od := od) C
  obtain ⟨hp, gs, dr, tk, ou⟩ := z
  have a0 := J.type (M := model prog w)
  have a1 := looks_findIn (M := model prog w) KI C.hg
  have a2 := looks_findIn (M := model prog w) KI C.hk
  have a3 := looks_find (M := model prog w) KI J fo
  have up : Looks (model prog w) hp (isInstance (.ref p) (.type "BaseException")) true := a0.andThen (looks_subIn KI C.hs)
  have no : (Value.builtin "BaseException.__getattribute__" == Value.builtin "object.__getattribute__") = false := by decide +kernel
  have no2 : (onTheHeap (Value.ref D) && Value.builtin "BaseException.__getattribute__" == Value.builtin "object.__getattribute__") = false := by rw [no]; rfl
  unfold getAttr?
  unfold getAttrBy? getAttrBy
  refine wpAny_bind (wpAny_mkText (wpAny_bind (wpAny_attempt (wpAny_holding (wpAny_bind (a0.at (wpAny_bind (a1.at ?_))))))))
  show wpAny _ _ (if (onTheHeap (Value.ref D) && Value.builtin "BaseException.__getattribute__" == Value.builtin "object.__getattribute__") = true then _ else _) _ _ _
  rw [no2, if_neg Bool.false_ne_true]
  unfold getAttrByItsOwn
  unfold hookBefore
  refine wpAny_bind ?_
  rw [if_pos (show onTheHeap (.ref D) = true from rfl)]
  refine a2.at (wpAny_bind (wpAny_attempt (wpAny_holding ?_)))
  unfold callGetattribute
  rw [show (false && onTheHeap (Value.builtin "BaseException.__getattribute__")) = false from rfl, if_neg Bool.false_ne_true]
  unfold boundAndCalled
  rw [PySem.F.excAttr_ValueError.ga.bind (.ref p)]
  refine wpAny_bind (wpAny_pure (wpAny_call (codeAny_call_builtin PySem.F.excAttr_ValueError.ga.plain PySem.F.entry_bexc_ga ?_)))
  refine @check_slot (model prog w) _ _ ⟨hp, gs, dr, tk + 1, ou⟩ "BaseException.__getattribute__" "BaseException" "__getattribute__" (.ref p) [.str "__class__" tk] [] _ (by decide +kernel) (by decide +kernel) up (PySem.F.args_bexc_ga (.ref p) (.str "__class__" tk)) ?_
  delta Builtin.«object.__getattribute__»
  refine wpAny_bind (wpAny_of_eq (a := ((Value.ref p : Value), [Value.str "__class__" tk])) (by first | rfl | (simp only [slotArgs]; rfl)) ?_)
  refine wpAny_bind (wpAny_pure (wpAny_bind (a0.at (wpAny_bind (a3.at ?_)))))
  refine wpAny_bind (wpAny_holding (wpAny_call (class_get (s := ⟨hp, gs, dr, tk + 1, ou⟩) (ox := op) (od := od) KI J C.hm ?_)))
  refine wpAny_pure ?_
  refine (show wpAny _ _ (handedOut (Value.ref D)) _ _ _ from ?_)
  rw [handedOut_of (v := Value.ref D) rfl]
  first
    | exact wpAny_pure (wpAny_pure q)
    | exact wpAny_pure q
    | exact wpAny_pure (wpAny_bind (wpAny_pure (wpAny_pure q)))
open PySem.W PySem.Calls in
theorem kit_err (C : ExcC K D) : KitX K (.ref p) (.ref D) (fun h => InstAt h p op D od) := by
  have base := handS_kitx_exc (x := p) (ox := op) C.hg C.hk C.hs C.hd C.ha C.hn C.ht C.hm
  exact ⟨fun _ _ _ J => J.type, fun M h KI J => (by
    obtain ⟨cd, hc, _⟩ := any_some C.hd
    unfold clsIn at hc
    split at hc
    · rename_i ho
      intro A' Q' E' z' k q
      unfold isType loadHead
      exact wpAny_bind (wpAny_loadPart (k _ _ (KI _ _ ho)) (wpAny_pure q))
    · cases hc), base.ne, fun KI J q => ask_class C KI J q⟩
end
def DictOk (d : Option Addr) (H : Hp) : Prop := ∀ dd, d = some dd → ∃ fs, H dd = some (.xd fs)
def rIsX (K : PySem.W.Frag) (D a : Addr) (d : Option Addr) : List V → Hp → VK → Prop := fun xs H Q => ∃ (c : V) (cv : Value) (b : Bool), xs = [.ref a, c] ∧ (∀ u, RelV c u → u = cv) ∧ PySem.W.kitOne K (.ref D) cv = some b ∧ DictOk d H ∧ Q (.bl b) H
section
variable {X : Cx} {a D : Addr} {oe : Obj} {pn : List (Addr × Obj)}
theorem pe_gref {x : Str} {p : Pos} (hg : Gl X x) (hm : X.mg x = some (.ref (He.ga X.K x))) (hd : (x == ("__debug__" : Str)) = false := by decide) : PE X (.Name x p) (tC (.ref (He.ga X.K x))) :=
  ⟨fun _ _ _ H _ I h => ld_glob I hg hm ⟨.ref _, H, I, rfl, h⟩ hd⟩
theorem call_isP {d : Option Addr} (C : ExcC X.K D) (hz : Zc (.ref D) d oe) (hf : ∃ vs, oe.data = .fields vs) (hp : (a, oe) ∈ X.pn) : CallR X (.builtin "isinstance") (rIsX X.K D a d) := by
  intro pins z σ H xs us Q I r h
  obtain ⟨c, cv, b, rfl, hcv, e, hd, q⟩ := h
  obtain ⟨u1, ur, rfl, rx, rr⟩ : ∃ u1 ur, us = u1 :: ur ∧ RelV (.ref a) u1 ∧ Vals [c] ur := by
    cases r with
    | cons rx rr => exact ⟨_, _, rfl, rx, rr⟩
  obtain ⟨u2, rfl, rt⟩ : ∃ u2, ur = [u2] ∧ RelV c u2 := by
    cases rr with
    | cons rt r0 =>
      cases r0
      exact ⟨_, rfl, rt⟩
  obtain rfl : u1 = Value.ref a := rx
  obtain rfl := hcv _ rt
  have hget := (I.pin (a, oe) (List.mem_append_left _ hp)).1
  obtain ⟨vs, hv⟩ := hf
  have nc : PySem.W.notCls oe := by unfold PySem.W.notCls; rw [hv] <;> rfl
  obtain ⟨od, J⟩ : ∃ od, PySem.W.InstAt z.heap a oe D od := by
    cases ed : d with
    | none => exact ⟨none, hget, hz.1, nc, by rw [hz.2, ed]; trivial⟩
    | some dd =>
      obtain ⟨fs, hH⟩ := hd dd ed
      have hx : ObjOk X.prog X.w H z.heap dd (.xd fs) := I.hok dd _ hH
      obtain ⟨mA, hns, _⟩ := hx
      obtain ⟨od, ho, _⟩ := lookIn_ns hns
      exact ⟨some od, hget, hz.1, nc, by rw [hz.2, ed]; exact ho⟩
  exact PySem.W.kia_one (kit_err C) I.kIn J e (fun y => nomatch y) fun tk => ⟨.bl b, H, I.kept (t' := tk) fun _ _ y => y, rfl, q⟩
theorem pe_warm {k : Nat} {g : Addr} {x y : Str} {pr : Arguments} {bd : List Stmt} {sc : Scope} {dV kV doc pm cdv ct oc : Value} {an od : Option Addr} {osl : Array (Option Value)} {N : List Str} {e : Expr} {te : TE} {t : TS} {p pos : Pos}
    (lk : X.K.lookup g = some ⟨oc, od, .func (PySem.W.fnOf x x pr bd sc dV kV doc pm an cdv ct), osl⟩) (hcd : PySem.W.codeIn X.K cdv x = true) (S : FnScope N [y] sc) (hr : L2H.RoomH (k + 1) X.A) (hp : (a, oe) ∈ X.pn)
    (hb : L2.Binds X.K (PySem.W.fnOf x x pr bd sc dV kV doc pm an cdv ct) [y] []) (hg : Gl X x) (hm : X.mg x = some (.ref g)) (hk : PySem.W.keepIn X.K (.ref g) = true)
    (hbody : ∀ (z : Shared) (H : Hp), PSs (cxP X.prog X.w X.K X.mg X.base N x sc g cdv X.A X.stack z H a oe) bd t) (he : PE X e te) (hdb : (x == ("__debug__" : Str)) = false := by decide)
    (hst : starEach [e] X.env = [(false, eval e X.env)] := by rfl) (hpl : (backTo pos (starEach [] X.env)).any (·.1) = false := by rfl) :
    PE X (.Call (.Name x p) [e] [] pos) (fun σ H Q => te σ H fun v H1 => v = .ref a ∧ t { nx := fun _ H' => Q .non H', rt := Q } (L2.start N [.ref a]) H1) := by
  refine ⟨fun pins z σ H Q I h => wpAny_Call_Name_kw (ld_glob I hg hm ?_ hdb)⟩
  let R : List V → Hp → Prop := fun vs H1 => match vs with
    | [v] => v = .ref a ∧ t { nx := fun _ H' => Q .non H', rt := Q } (L2.start N [.ref a]) H1
    | _ => False
  have ha : PA X [e] (tCons te tNil) := pa_cons he pa_nil hst
  refine PySem.W.callWith_K (h₀ := X.base) I.ok.mod.kin hk (thn (ha.run pos pins z σ H R I h) fun us z1 hh => ?_) hst hpl
  obtain ⟨vs, H1, I1, r1, q1⟩ := hh
  cases r1 with
  | nil => exact q1.elim
  | cons rv rr =>
    cases rr with
    | cons _ _ => exact q1.elim
    | nil =>
      obtain ⟨ev, ht⟩ := q1
      subst ev
      obtain rfl := rv
      have pin := I1.pin (a, oe) (List.mem_append_left _ hp)
      have hpin : L2H.PinOk X.stack H1 z1 (a, oe) := ⟨pin.1, pin.2.1, fun hm' => (List.mem_cons.mp (I1.stkSub a hm')).elim pin.2.2.1 pin.2.2.2.1, pin.2.2.2.2⟩
      refine ⟨I1.kIn, wpAny_call (codeAny_mono (warm_call lk hcd S hr I1.env0 hpin (hb z1 [.ref a] I1.kIn rfl) (hbody z1 H1) ht) fun r z2 hq => ?_)⟩
      cases r with
      | error err => exact False.elim hq
      | ok fl =>
        cases fl with
        | ret u => exact I1.after hq
        | next => exact False.elim hq
        | brk => exact False.elim hq
        | cont => exact False.elim hq
end
structure ErrIs (K : PySem.W.Frag) (x : Str) : Prop where
  mem : x ∈ errNames
  c : ExcC K (He.ga K x)
  k : ∀ y ∈ errNames, PySem.W.kitOne K (.ref (He.ga K x)) (.ref (He.ga K y)) = some (decide (x = y))
  v : PySem.W.kitOne K (.ref (He.ga K x)) (.type "ValueError") = some true
  s : PySem.W.exmOne K (.ref (He.ga K x)) (.ref (He.ga K "SortError")) = some true
theorem excCB_ok {K : PySem.W.Frag} {D : Addr} (h : excCB K D = true) : ExcC K D := by
  unfold excCB at h
  simp only [Bool.and_eq_true, decide_eq_true_eq] at h
  obtain ⟨h1, h2, h3, h4, h5, h6, h7, h8⟩ := h
  exact ⟨h1, h2, h3, h4, h5, h6, h7, h8⟩
theorem errB_ok {K : PySem.W.Frag} {x : Str} (h : errB x K = true) : ErrIs K x := by
  unfold errB at h
  simp only [Bool.and_eq_true, decide_eq_true_eq, List.all_eq_true] at h
  obtain ⟨h1, h2, h3, h4, h5⟩ := h
  exact ⟨h1, excCB_ok h2, h3, h4, h5⟩
def ErrNo (K : PySem.W.Frag) (x : Str) (d : Option Addr) (H : Hp) (v : V) : Prop :=
  if x = "BadRuns" ∨ x = "BadRows" ∨ x = "BadText" then ∃ dd fs, XfC K (He.ga K x) ∧ PySem.W.findIn K (.ref (He.ga K x)) (if x = "BadRuns" then ("number" : Str) else "place") = some none ∧ d = some dd ∧ H dd = some (.xd fs) ∧ fs.lookup (if x = "BadRuns" then ("number" : Str) else "place") = some v
  else d = none ∧ v = .int 0
def rErr (K : PySem.W.Frag) (cls : Value) (d : Option Addr) (H : Hp) (Q : VK) : Prop := ∃ x v, cls = .ref (He.ga K x) ∧ ErrIs K x ∧ ErrNo K x d H v ∧
  ∀ p H', H p = none → (∀ b o, H b = some o → H' b = some o) → H' p = some (.tup [.str x, v]) → Q (.ref p) H'
def tWarm (K : PySem.W.Frag) (i : Nat) (a : Addr) (cls : Value) (d : Option Addr) (N : List Str) (t : Addr → Addr → Option Addr → TS) : TE := fun σ H Q => σ[i]? = some (some (.ref a)) ∧ ∃ D, cls = .ref D ∧ ExcC K D ∧ t D a d { nx := fun _ H' => Q .non H', rt := Q } (L2.start N [.ref a]) H
def tErrF (K : PySem.W.Frag) (i : Nat) (a : Addr) (cls : Value) (d : Option Addr) (n : Str) : TE := fun σ H Q => σ[i]? = some (some (.ref a)) ∧ ∃ C dd fs v, cls = .ref C ∧ XfC K C ∧ PySem.W.findIn K (.ref C) n = some none ∧ d = some dd ∧ H dd = some (.xd fs) ∧ fs.lookup n = some v ∧ Q v H
structure WarmFn (P : Program) (w : World) (K : PySem.W.Frag) (mg : Str → Option Value) (base : Heap) (x : Str) (N : List Str) (t : Addr → Addr → Option Addr → TS) : Prop where
  ex : ∃ (y : Str) (g : Addr) (pr : Arguments) (bd : List Stmt) (sc : Scope) (dV kV doc pm cdv ct oc : Value) (an od : Option Addr) (osl : Array (Option Value)),
    K.lookup g = some ⟨oc, od, .func (PySem.W.fnOf x x pr bd sc dV kV doc pm an cdv ct), osl⟩ ∧ PySem.W.codeIn K cdv x = true ∧ FnScope N [y] sc ∧ L2.Binds K (PySem.W.fnOf x x pr bd sc dV kV doc pm an cdv ct) [y] [] ∧ mg x = some (.ref g) ∧ PySem.W.keepIn K (.ref g) = true ∧
    ∀ (D a : Addr) (d : Option Addr) (oe : Obj), ExcC K D → Zc (.ref D) d oe → (∃ vs, oe.data = .fields vs) → ∀ (A : Around) (outer : List Env) (z : Shared) (H : Hp), PSs (cxP P w K mg base N x sc g cdv A outer z H a oe) bd (t D a d)
section
variable {X : Cx} {a : Addr} {cls : Value} {d : Option Addr} {oe : Obj} {pn : List (Addr × Obj)} {i : Nat} {n : Str} {p p2 pos : Pos}
theorem pe_warmV {k : Nat} {x : Str} {N : List Str} {t : Addr → Addr → Option Addr → TS} (F : WarmFn X.prog X.w X.K X.mg X.base x N t) (hr : L2H.RoomH (k + 1) X.A) (hp : (a, oe) ∈ X.pn) (hz : Zc cls d oe) (hf : ∃ vs, oe.data = .fields vs) (hg : Gl X x) (he : PE X (.Name n p2) (tVar i))
    (hdb : (x == ("__debug__" : Str)) = false := by decide) (hst : starEach [.Name n p2] X.env = [(false, eval (.Name n p2) X.env)] := by rfl) (hpl : (backTo pos (starEach [] X.env)).any (·.1) = false := by rfl) :
    PE X (.Call (.Name x p) [.Name n p2] [] pos) (tWarm X.K i a cls d N t) := by
  refine ⟨fun pins z σ H Q I h => ?_⟩
  obtain ⟨h1, D, rfl, C, ht⟩ := h
  obtain ⟨y, g, pr, bd, sc, dV, kV, doc, pm, cdv, ct, oc, an, od, osl, lk, hcd, S, hb, hm, hk, hbody⟩ := F.ex
  exact (pe_warm (t := t D a d) lk hcd S hr hp hb hg hm hk (fun z H => hbody D a d oe C hz hf _ _ z H) he hdb hst hpl).run pins z σ H Q I ⟨_, h1, rfl, ht⟩
theorem pe_errF (hz : Zc cls d oe) (hf : ∃ vs, oe.data = .fields vs) (he : PE (X.suite a ((a, oe) :: pn)) (.Name n p2) (tVar i)) {f : Str} (hb : attributeBase (.Name n p2) f X.env (eval (.Name n p2) X.env) = eval (.Name n p2) X.env := by rfl) :
    PE (X.suite a ((a, oe) :: pn)) (.Attribute (.Name n p2) f pos) (tErrF X.K i a cls d f) := by
  refine ⟨fun pins z σ H Q I h => ?_⟩
  obtain ⟨h1, C, dd, fs, v, rfl, hx, hn, hd, hH, hl, q⟩ := h
  exact (pe_xf hx hn hz hf he hb).run pins z σ H Q I ⟨_, h1, rfl, rfl, dd, fs, v, hd, hH, hl, q⟩
theorem pss_len {b : List Stmt} {t : TS} (h : PSs X b t) : PSs X b (fun D σ H => σ.length = X.N.length → t D σ H) := ⟨fun pins s σ H D I hh => h.run pins s σ H D I (hh I.len)⟩
end
def TTold (K : PySem.W.Frag) : (XK → Hp → VK → Prop) → Hp → VK → Prop := fun tl H Q => tl (fun cls d H' => rErr K cls d H' Q) H Q
theorem told_does {X : Cx} {Ng : List Str} {x y e n q : Str} {sg : Scope} {g : Addr} {cdg : Value} {b₀ : Stmt} {suite : List Stmt} {ts : Addr → Value → Option Addr → TS} {p1 p2 p3 p4 p7 p8 : Pos} (hge : sg.names.lookup e = some .globalImplicit) (hme : X.mg e = some (.ref (He.ga X.K "SortError"))) (hde : (e == ("__debug__" : Str)) = false)
    (nd : Ng.Nodup) (hi : Ng[1]? = some n) (hln : sg.names.lookup n = some .local) (h0 : ∀ f : Addr, (L2.start Ng [V.ref f])[0]? = some (some (V.ref f)))
    (hsu : ∀ (s : Shared) (H : Hp) (a : Addr) (oe : Obj) (cls : Value) (d : Option Addr) (pn : List (Addr × Obj)), Zc cls d oe → (∃ vs, oe.data = .fields vs) → PSs ((cxOf C8.CX0 X.prog X.w X.K X.mg X.base Ng x sg g cdg X.A X.stack s H C8.E0).nox.suite a ((a, oe) :: pn)) (b₀ :: suite) (ts a cls d))
    (hp : ∀ (a : Addr) (cls : Value) (d : Option Addr) (H : Hp) (Q : VK) (D : Ends) (σ : L2.St), rErr X.K cls d H Q → D.rt = Q → σ.length = Ng.length → ts a cls d D (σ.set 1 (some (.ref a))) H) :
    GivesTo X Ng x sg g cdg [.Try [.Return (some (.Call (.Name y p1) [] [] p2)) p3] [.ExceptHandler (some (.Name e p4)) (some n) (b₀ :: suite) p7] [] [] p8] y q (TTold X.K) := by
  intro f c' s H Q tl act hc h
  have hgl : Gl (cxOf C8.CX0 X.prog X.w X.K X.mg X.base Ng x sg g cdg X.A X.stack s H C8.E0).nox e := hge
  refine ⟨_, pss_one (ps_try_as (X := (cxOf C8.CX0 X.prog X.w X.K X.mg X.base Ng x sg g cdg X.A X.stack s H C8.E0).nox) (c := .ref (He.ga X.K "SortError")) (i := 1)
      (ts := fun a cls d D σ H => σ.length = Ng.length → ts a cls d D σ H)
      (tb := fun W D σ H => ∃ Ech : XK, (∀ cls d σ' H', Ech cls d H' → W cls d σ' H') ∧ σ[0]? = some (some (.ref f)) ∧ H c' = some (CodeO c' q) ∧ tl Ech H D.rt)
      rfl rfl nd hi hln ⟨hgl, hde, .inl hme⟩ LamX.takes0 (fun W pn xe tk _ => ?_) (fun a oe cls d pn hz hf => pss_len (hsu s H a oe cls d pn hz hf))), ?_⟩
  · refine ⟨fun pins z σ H' D I h' => ?_⟩
    obtain ⟨Ech, hW, h1, h2, h3⟩ := h'
    exact (pss_one (ps_ret (pos := p3) (act W pn xe Ech p1 p2 tk hW))).run pins z σ H' D I ⟨h1, h2, h3⟩
  · refine ⟨fun cls d H' => rErr X.K cls d H' Q, fun cls d σ' H' hx => ?_, h0 f, hc, h⟩
    obtain ⟨z, v, rfl, E, r⟩ := id hx
    exact ⟨true, E.s, fun _ a _ hl => hp a _ d H' Q _ σ' hx rfl (by simpa using hl), fun z => nomatch z⟩
abbrev Lams : Type := List (He.Defn × Str)
def tabs (T : Lams) (K : PySem.W.Frag) : List (Addr × Str) := T.map fun p => ((He.cT K p.1).2, p.2)
structure TabF (K : PySem.W.Frag) (mg : Str → Option Value) (base : Heap) (T : Lams) : Prop where
  tb : ∀ p ∈ T, TabB base mg (He.cT K p.1).1 (He.cT K p.1).2
  nd : ((tabs T K).map (·.1)).Nodup
theorem uniq_of : ∀ {T : List (Addr × Str)} {c : Addr} {q : Str}, (T.map (·.1)).Nodup → (c, q) ∈ T → ∀ p ∈ T, p.1 = c → p.2 = q
  | [], _, _, _, h => nomatch h
  | z :: r, c, q, nd, h => fun p hp e => by
    rw [List.map_cons, List.nodup_cons] at nd
    rcases List.mem_cons.mp h with e1 | h1
    · rcases List.mem_cons.mp hp with e2 | h2
      · rw [e2, ← e1]
      · exact (nd.1 (List.mem_map.mpr ⟨p, h2, by rw [e, ← e1]⟩)).elim
    · rcases List.mem_cons.mp hp with e2 | h2
      · exact (nd.1 (List.mem_map.mpr ⟨_, h1, by rw [← e2, e]⟩)).elim
      · exact uniq_of nd.2 h1 p h2 e
structure ToldFn (P : Program) (w : World) (K : PySem.W.Frag) (mg : Str → Option Value) (base : Heap) (x : Str) : Prop where
  ex : ∃ (Ng : List Str) (y : Str) (g : Addr) (pr : Arguments) (bd : List Stmt) (sc : Scope) (dV kV doc pm cdv ct oc : Value) (an od : Option Addr) (osl : Array (Option Value)),
    K.lookup g = some ⟨oc, od, .func (PySem.W.fnOf x x pr bd sc dV kV doc pm an cdv ct), osl⟩ ∧ PySem.W.codeIn K cdv x = true ∧ L2.Binds K (PySem.W.fnOf x x pr bd sc dV kV doc pm an cdv ct) [y] [] ∧ FnScope Ng [y] sc ∧ Ng[0]? = some y ∧ Vis sc y ∧
    mg x = some (.ref g) ∧ PySem.W.keepIn K (.ref g) = true ∧ (y == ("__debug__" : Str)) = false ∧ (y == ("__classdict__" : Str)) = false ∧
    ∀ (X : Cx), X.prog = P → X.w = w → X.K = K → X.mg = mg → X.base = base → Room 2 X.A → ∀ q, GivesTo X Ng x sc g cdv bd y q (TTold K)
section
variable {X : Cx}
end
section
variable {P : Program} {w : World} {K : PySem.W.Frag} {mg : Str → Option Value} {base : Heap} {k : Nat} {x qual : Str} {at_ : Str × Option Str} {params : Arguments} {body : List Stmt} {scope : Scope} {N ps : List Str} {sp : Sp} {fd : FuncData}
theorem warm_of {t : Addr → Addr → Option Addr → TS} {y : Str} (F : FunD K x x params body scope [] [] (He.fAd K (x, none)) fd) (b : Binds K fd [y] []) (S : FnScope N [y] scope) (hm : mg x = some (.ref (He.fAd K (x, none))))
    (h : ∀ (D a : Addr) (d : Option Addr) (oe : Obj), ExcC K D → Zc (.ref D) d oe → (∃ vs, oe.data = .fields vs) → ∀ (cdv : Value) (A : Around) (outer : List Env) (z : Shared) (H : Hp), PSs (cxP P w K mg base N x scope (He.fAd K (x, none)) cdv A outer z H a oe) body (t D a d)) : WarmFn P w K mg base x N t := by
  obtain ⟨oc, od, dV, kV, doc, pm, an, cdv, ct, osl, rfl, lk, hcd, _, _⟩ := F.ex
  exact ⟨_, _, _, _, _, dV, kV, doc, pm, cdv, ct, oc, an, od, osl, lk, hcd, S, b, hm, F.kp, fun D a d oe C hz hf A outer z H => h D a d oe C hz hf cdv A outer z H⟩
theorem told_of {y : Str} (F : FunD K x x params body scope [] [] (He.fAd K (x, none)) fd) (b : Binds K fd [y] []) (S : FnScope N [y] scope) (hN : N[0]? = some y) (hv : Vis scope y) (hm : mg x = some (.ref (He.fAd K (x, none)))) (h1 : (y == ("__debug__" : Str)) = false) (h2 : (y == ("__classdict__" : Str)) = false)
    (h : ∀ (cdv : Value) (X : Cx), X.prog = P → X.w = w → X.K = K → X.mg = mg → X.base = base → Room 2 X.A → ∀ q, GivesTo X N x scope (He.fAd K (x, none)) cdv body y q (TTold K)) : ToldFn P w K mg base x := by
  obtain ⟨oc, od, dV, kV, doc, pm, an, cdv, ct, osl, rfl, lk, hcd, _, _⟩ := F.ex
  exact ⟨_, _, _, _, _, _, dV, kV, doc, pm, cdv, ct, oc, an, od, osl, lk, hcd, b, S, hN, hv, hm, F.kp, h1, h2, fun X => h cdv X⟩
end
def xCount (K : PySem.W.Frag) : V → List V → Hp → VK → Prop := fun x xs H Q => ∃ a ys y, x = V.ref a ∧ xs = [y] ∧ SqL K H a ys ∧ flatV y = true ∧ ys.all flatV = true ∧ Q (.int ((ys.countP fun z => eqV z y : Nat) : Int)) H
theorem countU : ∀ {ys : List V} {its : List Value} {y : V}, Vals ys its → ys.all flatV = true → its.countP (eqU y) = ys.countP fun z => eqV z y
  | _, _, _, .nil, _ => rfl
  | z :: ys, u :: its, y, .cons r rr, f => by
    rw [List.all_cons, Bool.and_eq_true] at f
    rw [List.countP_cons, List.countP_cons, countU rr f.2, eqU_of r f.1]
theorem mt_countF {X : Cx} : MtR X "list.count" (xCount X.K) := by
  intro pins z σ H x xs v us Q I rx rxs h
  obtain ⟨a, ys, y, rfl, rfl, hs, fy, fys, q⟩ := h
  cases rx
  obtain ⟨u, rfl, ru⟩ := rxs.one
  obtain ⟨its, rv, ⟨⟨cls, dd, data, sl⟩, n, ho, hc, hdn, hd⟩, hlen⟩ := I.list hs
  cases (show cls = _ from hc)
  cases (show data = _ from hd)
  refine call_meets PySem.F.slot_list_count ⟨_, ho, rfl⟩ PySem.F.entry_list_count (PySem.F.args_list_count_2 _ _) (SeqAt.list_countAt a its.toArray n dd sl u (eqU y)) ⟨ho, fun u' hu' => mem_eqAt ru fy rv fys u' (by simpa using hu'), ?_⟩
  have ec : its.toArray.toList.countP (eqU y) = ys.countP fun z => eqV z y := countU rv fys
  rw [ec]
  exact ⟨.int ((ys.countP fun z => eqV z y : Nat) : Int), H, I.tok _, ⟨_, rfl⟩, q⟩
theorem room_suite {A : Around} {env : Env} {h : Option Value} (r : Room 2 A) : L2H.RoomH 1 ((A.deeper env).mark h) := ⟨(r.deeper env).dp, (r.deeper env).un⟩
end Rs

namespace Rs
open PySem PySem.Spec PyProof.Rows L2
theorem overB_ok {K : PySem.W.Frag} {C : Addr} (q : overB K C = true) : ∃ nm q N bs bm sn sub ab col dd k0 k1 k2 k3 k5, K.lookup C = some (excClassObj nm q C N bs bm true sn sub ab col dd k0 k1 k2 k3 k5 "ValueError.__new__") ∧ PySem.HandSPX.refsVE bm = true := by
  unfold overB at q
  split at q
  · rename_i dd cd sl ho
    split at q
    · rename_i C' bm k0 k1 k2 k3 n k5 hm hs
      simp only [Bool.and_eq_true, beq_iff_eq, Bool.not_eq_true'] at q
      obtain ⟨rfl, rfl, hdel, hdict, ht⟩ := q
      obtain ⟨nm, bs, mro, ns, qn, hd, sn, sub, ab, col, del⟩ := cd
      dsimp only at hm hdel hdict
      subst hm hdel hdict
      have hsl : sl = #[k0, k1, k2, k3, some (.builtin "ValueError.__new__"), k5] := by
        obtain ⟨l⟩ := sl
        simp only at hs
        rw [hs]
      subst hsl
      exact ⟨nm, qn, ns, bs, bm, sn, sub, ab, col, dd, k0, k1, k2, k3, k5, ho, ht⟩
    · cases q
  · cases q
structure BaseInit (K : PySem.W.Frag) (S : Addr) : Prop where
  sp : PySem.W.specialIn K (.ref S) "__getattribute__" = some (some (.builtin "type.__getattribute__"))
  rd : PySem.W.readsIn K S (.type "type") = true
  fi : PySem.W.findCls K (.ref S) (.type "type") "__init__" = some (.val (.builtin "ValueError.__init__"))
structure ErrMk (K : PySem.W.Frag) (x f : Str) : Prop where
  oex : OexC K (He.ga K x)
  noF : PySem.W.findIn K (.ref (He.ga K x)) f = some none
  iC : PySem.W.findIn K (.ref (He.ga K x)) "__init__" = some (some (.ref (He.fAd K (x, some "__init__"))))
  tI : PySem.W.typeIn K (.ref (He.fAd K (x, some "__init__"))) = some (.type "function")
  base : BaseInit K (He.ga K "SortError")
theorem emB_ok {K : PySem.W.Frag} {x f : Str} (h : emB x f K = true) : ErrMk K x f := by
  unfold emB at h
  simp only [Bool.and_eq_true, decide_eq_true_eq] at h
  obtain ⟨h1, h2, h3, h4, h5, h6, h7, h8, h9, h10, h11⟩ := h
  refine ⟨⟨overB_ok h1, h2, h3, h4, h5⟩, h6, h7, h8, ⟨h9, h10, ?_⟩⟩
  split at h11
  · rename_i n q
    rw [q, beq_iff_eq.mp h11]
  · cases h11
section
variable {X : Cx} {e : Expr} {es : List Expr} {ta : TA} {p1 p2 pos : Pos}
theorem pe_binit {pl : Sem Bool} {x : Str} {S : Addr} (B : BaseInit X.K S) (hg : Gl X x) (hm : X.mg x = some (.ref S)) (ha : PA X (e :: es) ta) (hdb : (x == ("__debug__" : Str)) = false := by decide)
    (hc : eval (.Call (.Attribute (.Name x p1) "__init__" p2) (e :: es) [] pos) X.env = (do
      let ov ← eval (.Name x p1) X.env
      standAt p2.atName
      let (f, first) ← holding [ov] (getMethod ov "__init__" pl)
      callWith pos f first (backTo pos (starEach (e :: es) X.env)) (backToKw pos (keywordEach [] X.env))) := by rfl)
    (he : starEach (e :: es) X.env = (false, eval e X.env) :: starEach es X.env := by rfl) (hpl : (backTo pos (starEach es X.env)).any (·.1) = false := by rfl) :
    PE X (.Call (.Attribute (.Name x p1) "__init__" p2) (e :: es) [] pos) (tVeI X.K ta) := by
  refine ⟨fun pins s σ H Q I h => ?_⟩
  refine PySem.W.methodCall_KW (ld_glob I hg hm ?_ hdb) hc
  refine PySem.W.method_cls I.kIn B.sp (PySem.W.cls_value I.kIn B.rd B.fi (by decide +kernel) ?_)
  show wpAny _ _ (callWith pos (Value.builtin "ValueError.__init__") [] (backTo pos (starEach (e :: es) X.env)) []) _ _ _
  refine PyProof.Rows.callWith_method1 (thn (ha.run pos pins _ σ H _ (I.tok _) h) fun us s1 ⟨vs, H1, I1, r1, a, C, ws, ev, hl, T, ea, q⟩ => ?_) he hpl
  subst ev
  cases r1 with
  | @cons _ u0 _ ur ra rw' =>
    obtain rfl : u0 = Value.ref a := ra
    have hlen : ur.length ≤ sizeLine := by
      rw [← Paired.length rw', sizeLine_eq]
      omega
    exact oinit_ok T I1 ea hlen fun s' J => ⟨.non, H1, J, rfl, q⟩
end
def sp_einit (K : PySem.W.Frag) (f : Str) : Sp := fun vs H Q E => match vs with
  | [sv, pv] => ∃ a C : Addr, sv = .ref a ∧ OexC K C ∧ PySem.W.findIn K (.ref C) f = some none ∧ H a = some (exo a C none) ∧ ∀ dx, H dx = none → dx ≠ a → Q .non (upd (upd H dx (exd dx [(f, pv)])) a (exo a C (some dx)))
  | _ => False
def t_einit (K : PySem.W.Frag) (f m : Str) : TS := tSeq (tDrop (tVeI K (tCons (tVar 0) (tConsC (.str m) tNil)))) (tOst K f (tVar 0) (tVar 1))
theorem pure_einit {K : PySem.W.Frag} {f m : Str} {N : List Str} (hN : N.length = 2) : ∀ vs H Q E, sp_einit K f vs H Q E → t_einit K f m { nx := fun _ H' => Q .non H', rt := Q } (start N vs) H := by
  intro vs H Q E h
  match vs, h with
  | [sv, pv], h =>
    obtain ⟨a, C, rfl, T, hf, ea, k⟩ := h
    have e : start N [V.ref a, pv] = [some (V.ref a), some pv] := by
      obtain ⟨x, y, rfl⟩ : ∃ x y, N = [x, y] := by
        match N, hN with
        | [x, y], _ => exact ⟨x, y, rfl⟩
      rfl
    rw [e]
    exact ⟨_, rfl, a, C, [.str m], rfl, by show 1 ≤ 1000; decide, T, ea, _, rfl, _, rfl, a, C, rfl, T, hf, .inl ⟨ea, fun dx hd ne => k dx hd ne⟩⟩
def tRaiseX (K : PySem.W.Frag) (x f : Str) (E : XK) (ta : TA) : TS := fun D σ H => ta σ H fun vs H1 => ∃ v, vs = [v] ∧ ∀ d, H1 d = none → E (.ref (He.ga K x)) (some d) (upd H1 d (.xd [(f, v)]))
section
variable {X : Cx} {E : XK} {k : Nat} {x f : Str} {e : Expr} {ta : TA} {p pos pos2 : Pos}
theorem pa_weak {es : List Expr} (ha : PA X es ta) : PA X es (fun σ H Q => ∃ R : List V → Hp → Prop, ta σ H R ∧ ∀ vs H1, R vs H1 → Q vs H1) :=
  ⟨fun pos pins s σ H Q I ⟨R, h, m⟩ => thn (ha.run pos pins s σ H R I h) fun us s1 ⟨vs, H1, I1, r, q⟩ => ⟨vs, H1, I1, r, m vs H1 q⟩⟩
theorem ps_raiseX (em : ErrMk X.K x f) (F : Can X.prog X.w X.K X.mg X.base k (x, some "__init__") ["self", f] (sp_einit X.K f)) (hr : Room (k + 1) X.A) (hg : Gl X x) (hm : X.mg x = some (.ref (He.ga X.K x))) (hc : X.calm = true) (tk : Takes X (fun cls d _ H => E cls d H)) (ha : PA X [e] ta)
    (hdb : (x == ("__debug__" : Str)) = false := by decide) (he : starEach [e] X.env = (false, eval e X.env) :: starEach [] X.env := by rfl) (hpl : (backTo pos (starEach [] X.env)).any (·.1) = false := by rfl) :
    PS X (.Raise (some (.Call (.Name x p) [e] [] pos)) none pos2) (tRaiseX X.K x f E ta) := by
  obtain ⟨fd, F, b, kp⟩ := F
  have P := ps_raise (pos := pos2) hc tk (pmk_oex (p := p) (pos := pos) (dvs := []) (ds := []) em.oex em.iC em.tI F hr b .nil passL hg hm (pa_weak ha) hdb he hpl)
  refine ⟨fun pins s σ H D I h => P.run pins s σ H D I ⟨_, h, fun vs H1 q => ?_⟩⟩
  obtain ⟨v, rfl, q⟩ := q
  refine ⟨by show 1 ≤ 1000; decide, fun a ha0 => ⟨a, _, rfl, em.oex, em.noF, upd_same, fun dx hdx ne => ⟨rfl, dx, [(f, v)], upd_same, ?_, ?_, ?_⟩⟩⟩
  · rw [upd_ne ne, upd_same]
  · rw [upd_ne ne] at hdx
    exact hdx
  · rw [upd_ne ne] at hdx
    have e : upd (del (upd (upd (upd H1 a (exo a (He.ga X.K x) none)) dx (exd dx [(f, v)])) a (exo a (He.ga X.K x) (some dx))) a) dx (.xd [(f, v)]) = upd H1 dx (.xd [(f, v)]) := by
      funext b
      by_cases hb : b = dx
      · rw [hb, upd_same, upd_same]
      · rw [upd_ne hb, upd_ne hb]
        by_cases hba : b = a
        · rw [hba, del_same, ha0]
        · rw [del_ne hba, upd_ne hba, upd_ne hb, upd_ne hba]
    rw [e]
    exact q dx hdx
end
end Rs

namespace Rs
open PySem PySem.Spec PyProof.Rows L2 LamX
section
variable {X : Cx} {pins : List (Addr × Obj)} {σ : L2.St} {H : Hp} {s : Shared}
abbrev Backs (X : Cx) (s : Shared) (H : Hp) (scope : Scope) (ce : Env) (fp : List Addr) : Prop :=
  ∀ (p5 : List (Addr × Obj)) (σ5 : L2.St) (H5 : Hp) (s5 : Shared), Inv (X.blk s H scope ce fp) p5 σ5 H5 s5 → ∃ (p6 : List (Addr × Obj)) (σ6 : L2.St), Inv X p6 σ6 H5 s5
theorem pe_lcU {elt tg iter : Expr} {ifs : List Expr} {scope : Scope} {own : List (Str × Nat)} {pos : Pos} {wi : TI} {g : TG} {tt : TT} {te : TE} (calm : X.calm = true) (nod : X.N.Nodup) (pi : PI X tg iter wi) (ok : BlkOk X.N X.env.scope scope own)
    (pg : ∀ (s : Shared) (H : Hp) (C : Addr) (cl : List (Str × Addr)) (fp : List Addr), PG (X.blk s H scope (compEnvC scope cl C X.env) fp) tg g)
    (pt : ∀ (s : Shared) (H : Hp) (C : Addr) (cl : List (Str × Addr)) (fp : List Addr), Backs X s H scope (compEnvC scope cl C X.env) fp → PTs (X.blk s H scope (compEnvC scope cl C X.env) fp) ifs tt)
    (pe : ∀ (s : Shared) (H : Hp) (C : Addr) (cl : List (Str × Addr)) (fp : List Addr), Backs X s H scope (compEnvC scope cl C X.env) fp → PE (X.blk s H scope (compEnvC scope cl C X.env) fp) elt te)
    (fold : ∀ x, foldedSetIterable iter X.env x = pure x := by intro _; rfl) : PE X (.ListComp elt [⟨tg, iter, ifs, 0⟩] scope pos) (tLc wi g tt te (own.map (·.2))) := by
  refine ⟨fun pins s σ H Q I todo => ?_⟩
  rw [eval_ListComp]
  have cells : ∀ z ∈ scope.names, z.2 = .free → ∃ c, X.env.cells.lookup z.1 = some c := fun z hz e => I.ok.has _ (ok.free z hz e)
  refine wpAny_comprehension_free rfl fold (closure_ok cells) ok.kind (fun z hz e => by rw [ok.uniq z hz, e]) (thn (pi.run pins s σ H _ I todo) fun xv s1 q1 => thn q1 fun itv s2 q2 => ?_)
  obtain ⟨it, fp, tn, T0, H2, rfl, I2, T, t2, f2, q2⟩ := q2
  refine wpAny_newObj_type (newEnv_comp ?_) (Nat.zero_le _)
  obtain ⟨L, eL⟩ : ∃ L, s2.heap.objs.size = L := ⟨_, rfl⟩
  have L0 : H2 L = none := I2.hok.fresh (Nat.le_of_eq eL)
  obtain ⟨W, ⟨m0, w0⟩, turn⟩ := q2 L L0
  rw [eL]
  obtain ⟨sA, eA⟩ : ∃ sA : Shared, sA = { s2 with heap := s2.heap.push { cls := .type "list", data := .seq ([] : List Value).toArray } } := ⟨_, rfl⟩
  have hA : sA.heap = s2.heap.push { cls := .type "list", data := .seq ([] : List Value).toArray } := by rw [eA]
  have kA : ∀ b o, s2.heap.get? b = some o → sA.heap.get? b = some o := fun b o e => by
    rw [hA]
    exact Heap.get?_push_of_some _ e
  obtain ⟨HA, eH⟩ : ∃ HA, upd H2 L (.lst []) = HA := ⟨_, rfl⟩
  have IA : Inv X pins σ HA sA := by
    rw [eA, ← eH]
    refine I2.laid (t' := s2.toks) (fun b o e => Heap.get?_push_of_some _ e) (Nat.le_of_eq eL) ⟨Nat.zero_le _, [], 0, .nil, ?_⟩
    rw [← eL]
    exact Heap.get?_push_size _ rfl
  have sz : ∀ b ∈ fp, b < s2.heap.objs.size := fun b hb => let ⟨o, e, _⟩ := T.obj _ _ t2 b hb; Heap.lt_size e
  have fA : ∀ b ∈ fp, FpOk X pins HA b ∧ b < sA.heap.objs.size := fun b hb => by
    have := sz b hb
    refine ⟨⟨?_, (f2 b hb).2⟩, by rw [hA, Heap.size_push]; exact Nat.lt_succ_of_lt this⟩
    rw [← eH, upd_ne (by rw [← eL]; exact Nat.ne_of_lt this)]
    exact (f2 b hb).1
  have tA : tn 0 sA.heap := T.keep _ _ _ t2 fun b _ o e => kA b o e
  have IB := block_start IA ok nod fA
  have nA : ∀ b ∈ fp, HA b = none := fun b hb => (fA b hb).1.1
  rw [eH] at w0
  have bk : ∀ ce, Backs X sA HA scope ce fp := fun ce p5 σ5 H5 s5 J =>
    ⟨pins, σ, IA.call' (ch := fp) J.os J.base J.hok J.bare fun b hb => ⟨(fA b hb).1.2.2.2.1, (fA b hb).1.2.1, (fA b hb).1.2.2.2.2.1, (fA b hb).1.2.2.2.2.2⟩⟩
  have PGb := pg sA HA sA.heap.objs.size (cellsFrom (sA.heap.objs.size + 1) scope.names (cloFrom X.env.cells scope.names [])) fp
  have PTb := pt sA HA sA.heap.objs.size (cellsFrom (sA.heap.objs.size + 1) scope.names (cloFrom X.env.cells scope.names [])) fp (bk _)
  have PEb := pe sA HA sA.heap.objs.size (cellsFrom (sA.heap.objs.size + 1) scope.names (cloFrom X.env.cells scope.names [])) fp (bk _)
  show codeAny _ _ (.compStart _ 0 (.ref it) (.ref L) (compEnvC scope (cellsFrom ((s2.heap.push _).objs.size + 1) scope.names (cloFrom X.env.cells scope.names [])) (s2.heap.push _).objs.size X.env)) (compPost _ _ _ _ _ (.ref L) (s2.heap.push _).objs.size) { s2 with heap := pushCells ((s2.heap.push _).push { cls := .type "dict", data := .dict #[] }) scope.names }
  rw [← hA]
  obtain ⟨ce, eC⟩ : ∃ ce, compEnvC scope (cellsFrom (sA.heap.objs.size + 1) scope.names (cloFrom X.env.cells scope.names [])) sA.heap.objs.size X.env = ce := ⟨_, rfl⟩
  rw [eC] at IB PGb PTb PEb ⊢
  have cL : ce.locals = sA.heap.objs.size := by rw [← eC]; rfl
  rw [← cL]
  obtain ⟨sB, eB⟩ : ∃ sB : Shared, ({ sA with heap := pushCells (sA.heap.push { cls := .type "dict", data := .dict #[] }) scope.names } : Shared) = sB := ⟨_, rfl⟩
  have eB2 : ({ s2 with heap := pushCells (sA.heap.push { cls := .type "dict", data := .dict #[] }) scope.names } : Shared) = sB := by rw [← eB, eA]
  rw [eB2]
  rw [eB] at IB
  have tB : tn 0 sB.heap := T.keep _ _ _ tA fun b _ o e => by rw [← eB]; exact pushCells_keeps _ _ _ _ (Heap.get?_push_of_some _ e)
  have stat : ∀ {σ' : L2.St} {H' : Hp} {t : Shared}, Inv (X.blk sA HA scope ce fp) [] σ' H' t → (∀ b ∈ fp, H' b = none) → ∀ b ∈ fp, FpOk (X.blk sA HA scope ce fp) [] H' b := fun {σ' H' t} J hn b hb =>
    ⟨hn b hb, (J.ok.exf b hb).1, J.ok.exfs b hb, .inl hb, fun x c e => (J.ok.exf b hb).2 x c e, fun p hp => by simp at hp⟩
  have loop : codeAny (model X.prog X.w) X.A (.compLoop (.ListComp elt [⟨tg, iter, ifs, 0⟩] scope pos) 0 (.ref it) (.ref L) ce) (compPost (model X.prog X.w) X.A X.xe none (EP X pins σ Q) (.ref L) ce.locals) sB := by
    refine compLoop_any (fun n t => ∃ j H', Inv (X.blk sA HA scope ce fp) [] (wipe σ (own.map (·.2))) H' t ∧ tn j t.heap ∧ (∀ b ∈ fp, H' b = none) ∧ W j n H') ?_ m0 ⟨0, HA, IB, tB, nA, w0⟩
    rintro n t5 ⟨j, H5, I5, t5', n5, w5⟩
    rcases turn j n H5 w5 with ⟨stop, fin⟩ | ⟨go, Nx, hNx, step⟩
    · refine thnF (T.done (X.blk sA HA scope ce fp) rfl rfl rfl calm j [] t5 _ H5 (fun _ _ => False) I5 (stat I5 n5) t5' stop) fun r t6 ⟨hr, I6⟩ => ?_
      subst hr
      have I7 : Inv X pins σ H5 t6 := IA.call' (ch := fp) I6.os I6.base I6.hok I6.bare fun b hb => ⟨(fA b hb).1.2.2.2.1, (fA b hb).1.2.1, (fA b hb).1.2.2.2.2.1, (fA b hb).1.2.2.2.2.2⟩
      have nC : H5 ce.locals = none := I6.free
      obtain ⟨m, hn, _⟩ := I6.loc
      have hn : t6.heap.Ns ce.locals m := hn
      obtain ⟨a0, a1, a2, a3, a4, a5⟩ := IA.fpOk (Nat.le_of_eq cL.symm) nC
      exact ⟨m, hn, fun h3 sb3 => ⟨.ref L, H5, I7.turned (t' := t6.toks) (fun b o hb e => (sb3.2 b hb).trans e) a0 a1 a3 a4 a5, rfl, fin⟩⟩
    · refine thnF (T.item (X.blk sA HA scope ce fp) rfl rfl rfl calm j [] t5 _ H5 (fun _ _ => False) I5 (stat I5 n5) t5' go) fun r t6 ⟨v, hr, q6⟩ => ?_
      subst hr
      refine thnF q6 fun _ t7 ⟨x, H7, I7, r7, y7, k7, n7⟩ => ?_
      refine thnF (PGb.run _ t7 _ H7 x v _ (I7.pinned (stat I7 n7) (T.obj _ _ k7)) r7 (step x H7 y7)) fun _ t8 ⟨σ8, H8, I8, hw8, q8⟩ => ?_
      refine thnF (PTb.run _ t8 σ8 H8 _ I8 q8) fun b t9 ⟨H9, I9, q9⟩ => ?_
      have next : ∀ {t : Shared} {H' : Hp}, Inv (X.blk sA HA scope ce fp) ([] ++ pinsAt fp t7.heap) σ8 H' t → Nx H' → ∃ m, m < n ∧ ∃ j H', Inv (X.blk sA HA scope ce fp) [] (wipe σ (own.map (·.2))) H' t ∧ tn j t.heap ∧ (∀ b ∈ fp, H' b = none) ∧ W j m H' := fun {t H'} J nx => by
        obtain ⟨m, hm, w'⟩ := hNx H' nx
        have pin : ∀ b ∈ fp, ∀ o, t7.heap.get? b = some o → t.heap.get? b = some o ∧ H' b = none := fun b hb o e =>
          let z := J.pin (b, o) (List.mem_append_right _ (List.mem_append_right _ (mem_pinsAt hb e)))
          ⟨z.1, z.2.1⟩
        refine ⟨m, hm, j + 1, H', (J.unpinned (pins := [])).weak (by rw [← hw8, wipe_length]) (fun k w e => by rw [← hw8] at e; exact (wipe_some e).1), T.keep _ _ _ k7 fun b hb o e => (pin b hb o e).1, fun b hb => ?_, w'⟩
        obtain ⟨o, e, _⟩ := T.obj _ _ k7 b hb
        exact (pin b hb o e).2
      cases b with
      | false =>
        simp only [Bool.false_eq_true, if_false] at q9 ⊢
        exact next I9 q9
      | true =>
        simp only [if_true] at q9 ⊢
        refine thnF (PEb.run _ t9 σ8 H9 _ I9 q9) fun z tz ⟨yv, Hz, Iz, rz, acc, eD, szD, nx⟩ => ?_
        exact app_ok (X := X.blk sA HA scope ce fp) Iz eD szD rz fun tq Iq => next Iq nx
  exact codeAny_compStart_list loop (T.self X.A 0 _ _ _ tB loop)
end
structure LamF where
  q : Str
  ps : Arguments
  body : Expr
  scope : Scope
  clo : List (Str × Addr)
def LamF.obj (L : LamF) (pm : Value) (c : Addr) (ct : Value) : Obj := PySem.W.kla_obj "<lambda>" L.q L.ps L.body L.scope L.clo pm c ct
def LamO (L : LamF) (f c : Addr) : HO := .ext fun h => ∃ pm ct, h.get? f = some (L.obj pm c ct)
def LamIn (L : LamF) (f c : Addr) (H : Hp) : Prop := H f = some (LamO L f c) ∧ H c = some (CodeO c L.q)
def LamN (LS : List LamF) (j : Nat) (f : Addr) (H : Hp) : Prop := ∃ L c, LS[j]? = some L ∧ LamIn L f c H
theorem LamN.ext {LS : List LamF} {j : Nat} {f : Addr} {H H' : Hp} (h : LamN LS j f H) (e : ∀ b φ, H b = some (.ext φ) → H' b = some (.ext φ)) : LamN LS j f H' :=
  let ⟨L, c, a, b, d⟩ := h
  ⟨L, c, a, e _ _ b, e _ _ d⟩
def tLamM (T : List (Addr × Str)) (LS : List LamF) (j : Nat) : TE := fun σ H Q => Tabs T H ∧ ∀ f H1, ExtN H H1 → Tabs T H1 → H f = none → LamN LS j f H1 → Q (.ref f) H1
section
variable {X : Cx} {pins : List (Addr × Obj)} {σ : L2.St} {H : Hp} {s : Shared}
theorem lam_laid {L : LamF} {c' : Addr} {g : Heap} {pm ct : Value} {t : Nat} {HT : Hp} (I : Inv X pins σ HT { s with heap := g, toks := t }) :
    Inv X pins σ (upd HT g.objs.size (LamO L g.objs.size c')) { s with heap := g.push (L.obj pm c' ct), toks := t } := by
  have at_ : (g.push (L.obj pm c' ct)).get? g.objs.size = some (L.obj pm c' ct) := Heap.get?_push_size _ rfl
  refine I.laid (t' := t) (fun b o e => Heap.get?_push_of_some _ e) (Nat.le_refl _) ⟨⟨pm, ct, at_⟩, ⟨_, at_⟩, fun h1 h2 a st => ?_⟩
  obtain ⟨pm', ct', e⟩ := a
  exact ⟨pm', ct', st _ e⟩
theorem pe_lamM {T : Lams} {p0 : He.Defn} {LS : List LamF} {j : Nat} {params : Arguments} {body : Expr} {scope : Scope} {pos : Pos} (TF : TabF X.K X.mg X.base T) (hmT : (p0, X.env.qual ++ "<lambda>") ∈ T) (hcode : X.env.code = .ref (He.codeOf X.K p0))
    (hL : LS[j]? = some ⟨X.env.qual ++ "<lambda>", params, body, scope, cloFrom X.env.cells scope.names []⟩) (LS0 : lamSB X.env.scope scope = true) (hdef : defaultsOf params X.env = ([], [])) : PE X (.Lambda params body scope pos) (tLamM (tabs T X.K) LS j) := by
  refine ⟨fun pins s σ H Q I h => ?_⟩
  obtain ⟨hT, h⟩ := h
  have mT : ((He.cT X.K p0).2, X.env.qual ++ "<lambda>") ∈ tabs T X.K := List.mem_map.mpr ⟨_, hmT, rfl⟩
  have un := uniq_of TF.nd mT
  have TB := TF.tb _ hmT
  have hfree := (lamS_by LS0).has I.ok
  generalize (He.cT X.K p0).2 = P at mT un TB
  generalize hq : X.env.qual ++ "<lambda>" = q at mT un hL
  obtain ⟨tab, hP, ht, ha⟩ := hT _ mT
  have bP : s.heap.BuiltinsAt X.mg P := TB.bm.keeps I.bk
  have gP : s.heap.get? P = some { cls := .none, data := .fields tab } := I.hok P _ hP
  refine PySem.W.kla_eval hdef ?_
  rw [hq]
  have new : ∀ {HT : Hp} {g : Heap} {c' : Addr} {pm ct : Value} {t : Nat}, s.heap.objs.size ≤ g.objs.size → Inv X pins σ HT { s with heap := g, toks := t } → ExtN H HT → Tabs (tabs T X.K) HT → HT c' = some (CodeO c' q) →
      EP X pins σ Q (.ref g.objs.size) { s with heap := g.push (PySem.W.kla_obj "<lambda>" q params body scope (cloFrom X.env.cells scope.names []) pm c' ct), toks := t } := fun {HT g c' pm ct t} hz J eN tN co => by
    have J2 := lam_laid (L := ⟨q, params, body, scope, cloFrom X.env.cells scope.names []⟩) (c' := c') (pm := pm) (ct := ct) J
    have fr : HT g.objs.size = none := J.hok.fresh (Nat.le_refl _)
    have fr0 : H g.objs.size = none := I.hok.fresh hz
    have up : ∀ b o, HT b = some o → upd HT g.objs.size (LamO ⟨q, params, body, scope, cloFrom X.env.cells scope.names []⟩ g.objs.size c') b = some o := fun b o e => by
      rw [upd_ne (ne_of_none e fr)]
      exact e
    refine ⟨.ref g.objs.size, _, J2, rfl, h _ _ (fun b o e n => up b o (eN b o e n)) (tN.ext up) fr0 ⟨_, c', hL, upd_same, up _ _ co⟩⟩
  cases hc : codeAmong pos tab.toList with
  | none =>
    refine PySem.W.kla_makeFunction (mg := X.mg) (P := P) (ps := tab) (closure_ok hfree) I.ok.glob (I.mod.glob.keeps I.bk) hcode (TB.code.keeps I.bk) gP ht hc TB.gP bP fun c' ctv g tk hx hge hlt hrec htb => ?_
    obtain ⟨c2, oc, vs, t, e2, hoc, hd, hv⟩ := hrec
    cases e2
    have nC : H c' = none := I.hok.fresh hge
    have J := inv_table (t' := tk) (more := #[rawInt pos.line, rawInt pos.col, .ref c']) (h' := g) (q := q) I hP (fun b o hb e => hx b o hb e) htb hge ⟨oc, vs, t, hoc, hd, hv⟩
    have eN : ExtN H (upd (upd H P (.tbl (tab ++ #[rawInt pos.line, rawInt pos.col, .ref c']))) c' (CodeO c' q)) := fun b o e n => by
      rw [upd_ne (ne_of_none e nC), upd_ne (fun z => n tab (Option.some.inj (e.symm.trans (by rw [z]; exact hP))))]
      exact e
    refine new (Nat.le_trans hge (Nat.le_of_lt hlt)) J eN (fun p hp => ?_) upd_same
    by_cases hb : p.1 = P
    · have e3 : (tab ++ #[rawInt pos.line, rawInt pos.col, .ref c']).toList = tab.toList ++ [rawInt pos.line, rawInt pos.col, .ref c'] := by simp
      rw [un p hp hb, hb]
      refine ⟨_, by rw [upd_ne (ne_of_none hP nC), upd_same], by rw [e3]; exact PySem.TriplesOk_snoc _ _ _ _ ht, fun p' cv hcv => ?_⟩
      rw [e3] at hcv
      rcases among_app _ ht hcv with z | z
      · obtain ⟨c0, e1, e2⟩ := ha p' cv z
        exact ⟨c0, e1, eN _ _ e2 codeO_ne⟩
      · exact ⟨c', z, upd_same⟩
    · obtain ⟨tab', a1, a2, a3⟩ := hT p hp
      refine ⟨tab', by rw [upd_ne (ne_of_none a1 nC), upd_ne hb]; exact a1, a2, fun p' cv hcv => ?_⟩
      obtain ⟨c0, e1, e2⟩ := a3 p' cv hcv
      exact ⟨c0, e1, eN _ _ e2 codeO_ne⟩
  | some cv =>
    obtain ⟨c', rfl, hco⟩ := ha pos cv hc
    refine PySem.W.kla_makeFunctionHit (mg := X.mg) (P := P) (ps := tab) (closure_ok hfree) I.ok.glob (I.mod.glob.keeps I.bk) hcode (TB.code.keeps I.bk) gP ht hc bP fun ctv g tk hx hsz => ?_
    exact new hsz (I.kept (t' := tk) fun b o e => hx b o e) (ExtN.refl H) hT hco
end
section
variable {X : Cx} {pins : List (Addr × Obj)} {σ : L2.St} {HX H HZ : Hp} {sX s s1 : Shared}
theorem lam_in {A : Around} {outer : List Env} {E : XK} {scope : Scope} {f c' : Addr} {g : Heap} {tk : Nat} {fs : List Addr} (I : Inv X pins σ HX sX) (L : LamS X.env.scope scope) (e0 : Env0 X.prog X.w X.K X.mg X.base A outer s1 HZ) (hd : A.handled = none)
    (un : Un fs [] HX HZ sX.heap s1.heap) (ns : g.Ns s1.heap.objs.size fun y => ([] : List (Str × Value)).reverse.lookup y) (kp : ∀ b o, s1.heap.get? b = some o → g.get? b = some o) :
    Inv (lamCx X A outer s1 HZ E scope f c') [] σ HZ { s1 with heap := g, toks := tk } := by
  have has := L.has I.ok
  have back : ∀ {y c}, (cloFrom X.env.cells scope.names []).lookup y = some c → X.env.cells.lookup y = some c := fun {y c} e => by
    rcases cloFrom_mem (PySem.mem_of_lookup e) with hm | ⟨h1, h2⟩
    · exact nomatch hm
    · obtain ⟨d, hc⟩ := has _ h1 rfl
      have hc : X.env.cells.lookup y = some d := hc
      rw [show c = d by rw [h2, hc] <;> rfl]
      exact hc
  have fw : ∀ {y}, scope.names.lookup y = some .free → ∃ c, (cloFrom X.env.cells scope.names []).lookup y = some c := fun {y} hl =>
    mem_lookup (cloFrom_has (cells := X.env.cells) (acc := []) (show (y, NameKind.free) ∈ scope.names from PySem.mem_of_lookup hl))
  have stays : ∀ {c : Addr} {v : Option Value}, HX c = none → sX.heap.IsCell c v → g.IsCell c v := fun {c v} n ⟨o, ho, hd⟩ => by
    obtain ⟨sl, q⟩ := un.any ho n (by simp)
    exact ⟨_, kp _ _ q, hd⟩
  have noex : ∀ b : Addr, b ∉ (lamCx X A outer s1 HZ E scope f c').ex := fun b z => nomatch (show b ∈ ([] : List Addr) from z)
  have seen : ∀ y, scope.names.lookup y = some .free → Vis X.env.scope y := fun y k => .inr (L.free _ (PySem.mem_of_lookup k) rfl)
  refine ⟨⟨e0.mod, L.kind, rfl, rfl, Nat.le_refl _, fun y z c e1 e2 => I.ok.inj y z c (back e1) (back e2), fun y hy => ?_, fun y c z _ => ?_, fun _ => hd, Around.frames_deeper e0.frames, .inr ⟨rfl, rfl⟩, fun b z => absurd z (noex b), e0.bs, e0.bsz, fun b _ _ => noex b, fun b z => absurd z (noex b), e0.funs, e0.frf⟩,
    rfl, e0.bare, Un.kept kp, ⟨_, ns, fun i y v e1 e2 e3 => ?_⟩, fun y c e => ?_, e0.hok.fresh (Nat.le_refl _), fun y c e => ?_, fun q hq => absurd (show q ∈ ([] : List (Addr × Obj)) ++ [] from hq) (by simp), e0.hok.kept kp, I.len⟩
  · rcases (show scope.names.lookup y = some .cell ∨ scope.names.lookup y = some .free from hy) with k | k
    · exact ((L.own _ (PySem.mem_of_lookup k)).2 rfl).elim
    · exact fw k
  · exact nomatch (show false = true from z)
  · rcases (show Vis scope y from e3) with k | k | k
    · exact ((L.own _ (PySem.mem_of_lookup k)).1 rfl).elim
    · exact ((L.own _ (PySem.mem_of_lookup k)).2 rfl).elim
    · obtain ⟨m, hn, hl⟩ := I.loc
      obtain ⟨u, r, q⟩ := hl i y v e1 e2 (seen y k)
      obtain ⟨d, h2⟩ := fw k
      have c1 := back h2
      refine ⟨u, r, .inr ⟨.inr k, d, h2, ?_⟩⟩
      rcases q with ⟨k', _⟩ | ⟨_, c3, e', z⟩
      · have k' : X.env.scope.names.lookup y = some .local := k'
        rcases L.free _ (PySem.mem_of_lookup k) rfl with k2 | k2
        · rw [show X.env.scope.names.lookup y = _ from k2] at k'
          exact nomatch k'
        · rw [show X.env.scope.names.lookup y = _ from k2] at k'
          exact nomatch k'
      · rw [c1] at e'
        cases e'
        exact stays (I.freeC y _ c1) z
  · obtain ⟨v, z⟩ := I.cell y c (back e)
    exact ⟨v, stays (I.freeC y c (back e)) z⟩
  · obtain ⟨v, o, ho, _⟩ := I.cell y c (back e)
    exact un.free c o ho (I.freeC y c (back e)) (by simp)
structure LamOk (X : Cx) (k : Nat) (L : LamF) (t : XK → TE) : Prop where
  q : L.q = X.env.qual ++ "<lambda>"
  clo : L.clo = cloFrom X.env.cells L.scope.names []
  sc : lamSB X.env.scope L.scope = true
  bind : ∀ (pm cv ct : Value), bindArgs (PySem.W.kla_fn "<lambda>" L.q L.ps L.body L.scope L.clo pm cv ct) ⟨[], []⟩ = pure []
  body : ∀ (A : Around) (outer : List Env) (s : Shared) (H : Hp) (E : XK) (f c' : Addr), Room k (A.deeper (lamEnv X L.scope s.heap.objs.size f c')) → PE (lamCx X A outer s H E L.scope f c') L.body (t E)
theorem act_lam {Ng : List Str} {qg : Str} {sg : Scope} {g f c' : Addr} {cdg : Value} {L : LamF} {k i : Nat} {a : Str} {pn : List (Addr × Obj)} {xe : Value → Shared → Prop} {W : WX} {E : XK} {t : XK → TE} {p1 p2 : Pos} {A1 : Around} {outer1 : List Env}
    (I : Inv X pins σ HX sX) (O : LamOk X k L t) (un0 : Un (frs X.stack) [] HX H sX.heap s.heap) (sub : ∀ b ∈ frs X.stack, b ∈ frs outer1)
    (tk : Takes ((cxOf C8.CX0 X.prog X.w X.K X.mg X.base Ng qg sg g cdg A1 outer1 s H C8.E0).tr pn xe) W) (hW : ∀ cls d σ' H', E cls d H' → W cls d σ' H') (hr : Room (k + 1) (A1.deeper (envOfC qg sg s.heap.objs.size g cdg)))
    (hN : Ng[i]? = some a) (hv : Vis sg a) (hd : (a == ("__debug__" : Str)) = false) (hcd : (a == ("__classdict__" : Str)) = false) :
    PE ((cxOf C8.CX0 X.prog X.w X.K X.mg X.base Ng qg sg g cdg A1 outer1 s H C8.E0).tr pn xe) (.Call (.Name a p1) [] [] p2)
      (fun σZ HZ Q => σZ[i]? = some (some (.ref f)) ∧ HZ c' = some (CodeO c' L.q) ∧ HZ f = some (LamO L f c') ∧ t E σ HZ Q) := by
  obtain ⟨q, ps, body, scope, clo⟩ := L
  obtain ⟨e1, e2, sc, bind, hbody⟩ := O
  dsimp only at e1 e2 sc bind hbody
  subst e1 e2
  have S := lamS_by sc
  refine ⟨fun pinsZ sZ σZ HZ Q IZ h => ?_⟩
  obtain ⟨hs, hc, hf, ht⟩ := h
  refine wpAny_Call_Name_kw (thn ((pe_var (pos := p1) (i := i) hN hv hd hcd).run pinsZ sZ σZ HZ (fun v H1 => v = .ref f ∧ H1 = HZ) IZ ⟨.ref f, hs, rfl, rfl⟩) fun u s1 ⟨v, H1, I1, r1, q1⟩ => ?_)
  obtain ⟨rfl, rfl⟩ := q1
  obtain rfl : u = Value.ref f := r1
  obtain ⟨⟨pm, ct, of1⟩, _, _⟩ := I1.hok f _ hf
  refine PySem.W.callWith_F0 ⟨_, _, _, _, of1⟩ ?_
  obtain ⟨⟨oc, vs, t', hoc, hdc, hvc⟩, _, _⟩ := I1.hok c' _ hc
  have un : Un (frs outer1) [] HX H1 sX.heap s1.heap := (un0.mono sub fun b z => z).trans I1.base
  have rc : codeAny (model X.prog X.w) (A1.deeper (envOfC qg sg s.heap.objs.size g cdg)) (.call (.ref f) ⟨[], []⟩) (CR (L2.CX X.prog X.w) (envOfC qg sg s.heap.objs.size g cdg :: outer1) X.prog X.w H1 s1 Q E) s1 := by
    refine PySem.W.kla_callFunE hr.depth of1 rfl S.co S.gen rfl ⟨c', oc, vs, t', rfl, hoc, hdc, hvc⟩ ?_
    rw [bind]
    refine wpAny_pure (wpAny_newFunctionEnv (fun y hy => (S.own y hy).2) (fun y hy => absurd hy (by simp)) (fun h₁ hns hsb => ⟨I1.nolimit.fresh _ hsb, ?_⟩) S.kind)
    show codeAny _ _ (.expr body (lamEnv X scope s1.heap.objs.size f c')) _ _
    have kp : ∀ b o, s1.heap.get? b = some o → h₁.get? b = some o := fun b o e => hsb.extBut b o (Nat.ne_of_lt (Heap.lt_size e)) (Heap.get?_push_of_some _ e)
    have J := lam_in (E := E) (f := f) (c' := c') (tk := s1.toks + ([] : List (Str × Value)).length) I S I1.env0 hr.hd un hns kp
    refine PySem.W.kla_codeExpr (wpAny_mono ((hbody _ _ s1 H1 E f c' (hr.deeper _)).run [] _ _ H1 Q J ht) (fun v s' hq => ?_) fun e s' hq => hq)
    obtain ⟨w', H', J', rv, q⟩ := hq
    exact ⟨w', H', J'.os, J'.bare, J'.base, J'.hok, rv, q⟩
  refine wpAny_call (codeAny_mono rc fun r s' hq => ?_)
  cases r with
  | error e => exact passes_call tk hW pinsZ σZ H1 s1 e s' I1 hq
  | ok fl =>
    cases fl with
    | ret u => exact I1.after hq
    | next => exact hq.elim
    | brk => exact hq.elim
    | cont => exact hq.elim
end
def tToldV (K : PySem.W.Frag) (LS : List LamF) (tt : Nat → XK → Hp → VK → Prop) (i : Nat) : TE := fun σ H Q => ∃ f j, σ[i]? = some (some (.ref f)) ∧ LamN LS j f H ∧ tt j (fun cls d H' => rErr K cls d H' Q) H Q
section
variable {X : Cx} {pins : List (Addr × Obj)} {σ : L2.St} {HX : Hp} {sX : Shared}
abbrev allCx (X : Cx) (N : List Str) (x : Str) (sc : Scope) (g : Addr) (cd : Value) (s : Shared) (H : Hp) : Cx := cxOf C8.CX0 X.prog X.w X.K X.mg X.base N x sc g cd X.A X.stack s H C8.E0
theorem pe_toldV {N : List Str} {xa x a : Str} {sc scope : Scope} {ga C : Addr} {cda : Value} {LS : List LamF} {ts : Nat → XK → TE} {k i : Nat} {s3 : Shared} {H3 : Hp} {cl : List (Str × Addr)} {fp : List Addr} {p1 p2 p3 : Pos}
    (I : Inv X pins σ HX sX) (F : ToldFn X.prog X.w X.K X.mg X.base x) (hL : ∀ j L E σ H Q, ts j E σ H Q → LS[j]? = some L → LamOk X k L (ts j)) (hr : Room (k + 3) X.A)
    (bk : Backs (allCx X N xa sc ga cda sX HX) s3 H3 scope (compEnvC scope cl C (allCx X N xa sc ga cda sX HX).env) fp) (hg : Gl ((allCx X N xa sc ga cda sX HX).blk s3 H3 scope (compEnvC scope cl C (allCx X N xa sc ga cda sX HX).env) fp) x)
    (hN : N[i]? = some a) (hv : Vis (compEnvC scope cl C (allCx X N xa sc ga cda sX HX).env).scope a) (hdb : (x == ("__debug__" : Str)) = false) (hd : (a == ("__debug__" : Str)) = false) (hcd : (a == ("__classdict__" : Str)) = false) :
    PE ((allCx X N xa sc ga cda sX HX).blk s3 H3 scope (compEnvC scope cl C (allCx X N xa sc ga cda sX HX).env) fp) (.Call (.Name x p1) [.Name a p2] [] p3) (tToldV X.K LS (fun j E => ts j E σ) i) := by
  obtain ⟨Ng, y, g, pr, bd, sg, dV, kV, doc, pm, cdv, ct, oc, an, od, osl, lk, hcg, hb, Sg, hNg, hvg, hm, hk, h1, h2, hG⟩ := F.ex
  have rA : Room (k + 2) (allCx X N xa sc ga cda sX HX).A := hr.deeper _
  have bk : ∀ (p5 : List (Addr × Obj)) (σ5 : L2.St) (H5 : Hp) (s5 : Shared), Inv ((allCx X N xa sc ga cda sX HX).blk s3 H3 scope (compEnvC scope cl C (allCx X N xa sc ga cda sX HX).env) fp) p5 σ5 H5 s5 → ∃ (p6 : List (Addr × Obj)) (σ6 : L2.St), Inv (allCx X N xa sc ga cda sX HX) p6 σ6 H5 s5 := bk
  generalize hY : (allCx X N xa sc ga cda sX HX).blk s3 H3 scope (compEnvC scope cl C (allCx X N xa sc ga cda sX HX).env) fp = Y at bk hg ⊢
  have eP : Y.prog = X.prog := by rw [← hY]; rfl
  have eW : Y.w = X.w := by rw [← hY]; rfl
  have eK : Y.K = X.K := by rw [← hY]; rfl
  have eM : Y.mg = X.mg := by rw [← hY]; rfl
  have eB : Y.base = X.base := by rw [← hY]; rfl
  have eA : Y.A = (allCx X N xa sc ga cda sX HX).A := by rw [← hY]
  have eS : Y.stack = (allCx X N xa sc ga cda sX HX).stack := by rw [← hY]
  have eN : Y.N = N := by rw [← hY]; rfl
  have eE : Y.env = compEnvC scope cl C (allCx X N xa sc ga cda sX HX).env := by rw [← hY]
  refine ⟨fun pY s σY H Q IY h => ?_⟩
  obtain ⟨f, j, hf, ⟨L, c', hj, o1, o2⟩, ht⟩ := h
  obtain ⟨p6, σ6, IZ⟩ := bk pY σY H s IY
  have un0 : Un (frs X.stack) [] HX H sX.heap s.heap := IZ.base
  have sub : ∀ b ∈ frs X.stack, b ∈ frs (allCx X N xa sc ga cda sX HX).stack := fun b hb => by
    obtain ⟨e, he, q⟩ := List.mem_filterMap.mp hb
    exact List.mem_filterMap.mpr ⟨e, List.mem_cons_of_mem _ he, q⟩
  refine wpAny_Call_Name_kw (ld_glob IY hg (by rw [eM]; exact hm) ?_ hdb)
  refine PySem.W.callWith_K (h₀ := Y.base) IY.ok.mod.kin (by rw [eK]; exact hk) ?_ (by rfl) (by rfl)
  show wpAny _ _ (spliced ((false, eval (.Name a p2) Y.env) :: backTo p3 (starEach [] Y.env))) _ _ s
  refine Calls.spliced_cons (thn ((pe_var (pos := p2) (i := i) (by rw [eN]; exact hN) (by rw [eE]; exact hv) hd hcd).run pY s σY H (fun v H1 => v = .ref f ∧ H1 = H) IY ⟨.ref f, hf, rfl, rfl⟩) fun u s1 ⟨v, H1, I1, r1, q1⟩ => ?_)
  obtain ⟨rfl, rfl⟩ := q1
  obtain rfl : u = Value.ref f := r1
  refine Calls.spliced_nil ⟨I1.kIn, ?_⟩
  have un1 : Un (frs X.stack) [] HX H1 sX.heap s1.heap := by
    obtain ⟨p7, σ7, IZ1⟩ := bk pY σY H1 s1 I1
    exact IZ1.base
  have rc : codeAny (model Y.prog Y.w) Y.A (.call (.ref g) ⟨[.ref f], []⟩) (CR C8.CX0 Y.stack Y.prog Y.w H1 s1 Q C8.E0) s1 := by
    have env1 := I1.env0
    rw [eP, eW, eK, eM, eB, eA, eS] at env1
    rw [eP, eW, eA, eS]
    refine run_ofS (N := Ng) (ps := [y]) (us := [.ref f]) (vs := [.ref f]) lk hcg Sg rA env1 (hb s1 [.ref f] (by rw [← eK]; exact I1.kIn) rfl) (.cons rfl .nil) rfl fun hr' => ?_
    obtain ⟨t', ht', hq'⟩ := hG (allCx X N xa sc ga cda sX HX) rfl rfl rfl rfl rfl (rA.mono (by omega)) L.q f c' s1 H1 Q (fun E H' Q' => H' f = some (LamO L f c') ∧ ts j E σ H' Q')
      (fun W pn xe E p1 p2 tk hW => act_lam (X := X) (A1 := (allCx X N xa sc ga cda sX HX).A) (outer1 := (allCx X N xa sc ga cda sX HX).stack) (i := 0) I (hL j L _ _ _ _ ht hj) un1 sub tk hW hr' hNg hvg h1 h2) o2 ⟨o1, ht⟩
    exact ⟨t', ht'.nox, hq'⟩
  refine wpAny_call (codeAny_mono rc fun r s2 hq => ?_)
  cases r with
  | error e => exact (show False from hq).elim
  | ok fl =>
    cases fl with
    | ret u => exact I1.after hq
    | next => exact hq.elim
    | brk => exact hq.elim
    | cont => exact hq.elim
end
def lamT (l : List (Nat × (XK → TE))) (j : Nat) : XK → TE := fun E σ H Q => ∃ t, l.lookup j = some t ∧ t E σ H Q
def LamsOk (X : Cx) (k : Nat) (LS : List LamF) (l : List (Nat × (XK → TE))) : Prop := ∀ j L t, l.lookup j = some t → LS[j]? = some L → LamOk X k L t
theorem lams_nil {X : Cx} {k : Nat} {LS : List LamF} : LamsOk X k LS [] := fun j L t h => nomatch h
theorem lams_cons {X : Cx} {k j : Nat} {LS : List LamF} {L : LamF} {t : XK → TE} {l : List (Nat × (XK → TE))} (e : LS[j]? = some L) (O : LamOk X k L t) (r : LamsOk X k LS l) : LamsOk X k LS ((j, t) :: l) := fun i L' t' h h2 => by
  rw [List.lookup_cons] at h
  split at h
  · rename_i c
    have c : i = j := by simpa using c
    subst c
    rw [e] at h2
    cases h2
    cases h
    exact O
  · exact r i L' t' h h2
theorem lams_put {X : Cx} {k j : Nat} {LS : List LamF} {t : XK → TE} {l : List (Nat × (XK → TE))} {q : Str} {ps : Arguments} {body : Expr} {scope : Scope} {clo : List (Str × Addr)} (e : LS[j]? = some ⟨q, ps, body, scope, clo⟩) (hq : q = X.env.qual ++ "<lambda>") (hc : clo = cloFrom X.env.cells scope.names [])
    (sc : lamSB X.env.scope scope = true) (bind : ∀ (pm cv ct : Value), bindArgs (PySem.W.kla_fn "<lambda>" q ps body scope clo pm cv ct) ⟨[], []⟩ = pure [])
    (hb : ∀ (A : Around) (outer : List Env) (s : Shared) (H : Hp) (E : XK) (f c' : Addr), Room k (A.deeper (lamEnv X scope s.heap.objs.size f c')) → PE (lamCx X A outer s H E scope f c') body (t E)) (r : LamsOk X k LS l) : LamsOk X k LS ((j, t) :: l) :=
  lams_cons e ⟨hq, hc, sc, bind, hb⟩ r
theorem lamT_eq {l : List (Nat × (XK → TE))} {j : Nat} {t : XK → TE} (h : l.lookup j = some t) : lamT l j = t := by
  funext E σ H Q
  unfold lamT
  rw [h]
  exact propext ⟨fun ⟨t', e, z⟩ => by cases e; exact z, fun z => ⟨t, rfl, z⟩⟩
theorem LamsOk.at {X : Cx} {k : Nat} {LS : List LamF} {l : List (Nat × (XK → TE))} (h : LamsOk X k LS l) : ∀ j L E σ H Q, lamT l j E σ H Q → LS[j]? = some L → LamOk X k L (lamT l j) := fun j L E σ H Q ht hj => by
  obtain ⟨t, e, _⟩ := ht
  rw [lamT_eq e]
  exact h j L t e hj
structure AllFn (P : Program) (w : World) (K : PySem.W.Frag) (mg : Str → Option Value) (base : Heap) (x told : Str) (Ng : List Str) (tr : List LamF → (Nat → XK → Hp → VK → Prop) → TS) (n : Nat) : Prop where
  ex : ∃ (y z : Str) (g : Addr) (pr : Arguments) (bd : List Stmt) (sc : Scope) (dV kV doc pm cdv ct oc : Value) (an od : Option Addr) (osl : Array (Option Value)),
    K.lookup g = some ⟨oc, od, .func (PySem.W.fnOf x x pr bd sc dV kV doc pm an cdv ct), osl⟩ ∧ PySem.W.codeIn K cdv x = true ∧ L2.Binds K (PySem.W.fnOf x x pr bd sc dV kV doc pm an cdv ct) [y, z] [] ∧ FnScope Ng [y, z] sc ∧
    mg x = some (.ref g) ∧ PySem.W.keepIn K (.ref g) = true ∧
    ∀ (X : Cx), X.prog = P → X.w = w → X.K = K → X.mg = mg → X.base = base → ∀ (s : Shared) (H : Hp), Room n (allCx X Ng x sc g cdv s H).A → ∀ (LS : List LamF) (tt : Nat → XK → Hp → VK → Prop),
      (∀ (scope : Scope) (s3 : Shared) (H3 : Hp) (C : Addr) (cl : List (Str × Addr)) (fp : List Addr) (i : Nat) (a : Str) (p1 p2 p3 : Pos), Backs (allCx X Ng x sc g cdv s H) s3 H3 scope (compEnvC scope cl C (allCx X Ng x sc g cdv s H).env) fp →
        Gl ((allCx X Ng x sc g cdv s H).blk s3 H3 scope (compEnvC scope cl C (allCx X Ng x sc g cdv s H).env) fp) told → Ng[i]? = some a → Vis (compEnvC scope cl C (allCx X Ng x sc g cdv s H).env).scope a → (told == ("__debug__" : Str)) = false → (a == ("__debug__" : Str)) = false → (a == ("__classdict__" : Str)) = false →
        PE ((allCx X Ng x sc g cdv s H).blk s3 H3 scope (compEnvC scope cl C (allCx X Ng x sc g cdv s H).env) fp) (.Call (.Name told p1) [.Name a p2] [] p3) (tToldV X.K LS tt i)) →
      PSs (allCx X Ng x sc g cdv s H) bd (tr LS tt)
def tAllC (LS : List LamF) (l : List (Nat × (XK → TE))) (tr : List LamF → (Nat → XK → Hp → VK → Prop) → TS) (N : List Str) (ta : TA) : TE := fun σ H Q => ta σ H fun vs H1 => vs.length = 2 ∧ tr LS (fun j E => lamT l j E σ) { nx := fun _ H' => Q .non H', rt := Q } (L2.start N vs) H1
theorem pe_allC {X : Cx} {x told : Str} {Ng : List Str} {tr : List LamF → (Nat → XK → Hp → VK → Prop) → TS} {n k : Nat} {LS : List LamF} {l : List (Nat × (XK → TE))} {e1 e2 : Expr} {ta : TA} {p pos : Pos} (F : AllFn X.prog X.w X.K X.mg X.base x told Ng tr n) (T : ToldFn X.prog X.w X.K X.mg X.base told) (hg : Gl X x)
    (hr : Room (k + 3) X.A) (hr2 : Room (n + 1) X.A) (ha : PA X [e1, e2] ta) (hL : LamsOk X k LS l)
    (hdb : (x == ("__debug__" : Str)) = false := by decide) (he : starEach [e1, e2] X.env = (false, eval e1 X.env) :: starEach [e2] X.env := by rfl) (hpl : (backTo pos (starEach [e2] X.env)).any (·.1) = false := by rfl) :
    PE X (.Call (.Name x p) [e1, e2] [] pos) (tAllC LS l tr Ng ta) := by
  obtain ⟨y, z, g, pr, bd, sc, dV, kV, doc, pm, cdv, ct, oc, an, od, osl, lk, hcd, hb, S, hm, hk, hbody⟩ := F.ex
  refine ⟨fun pins s σ H Q I h => ?_⟩
  refine wpAny_Call_Name_kw (ld_glob I hg hm ?_ hdb)
  refine PySem.W.callWith_K (h₀ := X.base) I.ok.mod.kin hk (thn (ha.run pos pins s σ H _ I h) fun us s1 ⟨vs, H1, I1, r, hl, q⟩ => ⟨I1.kIn, ?_⟩) he hpl
  have r' := r.length
  have rc : codeAny (model X.prog X.w) X.A (.call (.ref g) ⟨us, []⟩) (CR C8.CX0 X.stack X.prog X.w H1 s1 Q C8.E0) s1 := by
    refine run_ofS (N := Ng) (ps := [y, z]) (us := us) (vs := vs) lk hcd S hr2 I1.env0 (by have z := hb s1 us I1.kIn (by rw [List.append_nil, ← r', hl]; rfl); rw [List.append_nil] at z; exact z) r (by rw [hl]; rfl) fun hr' => ?_
    exact ⟨_, hbody X rfl rfl rfl rfl rfl s1 H1 hr' LS (fun j E => lamT l j E σ) (fun scope s3 H3 C cl fp i a p1 p2 p3 bk g1 g2 g3 g4 g5 g6 => pe_toldV I1 T hL.at hr bk g1 g2 g3 g4 g5 g6), q⟩
  refine wpAny_call (codeAny_mono rc fun r s2 hq => ?_)
  cases r with
  | error e => exact (show False from hq).elim
  | ok fl =>
    cases fl with
    | ret u => exact I1.after hq
    | next => exact hq.elim
    | brk => exact hq.elim
    | cont => exact hq.elim
section
variable {P : Program} {w : World} {K : PySem.W.Frag} {mg : Str → Option Value} {base : Heap} {k : Nat} {x qual : Str} {at_ : Str × Option Str} {params : Arguments} {body : List Stmt} {scope : Scope} {N ps : List Str} {sp : Sp} {fd : FuncData}
theorem all_of {y z told : Str} {n : Nat} {tr : List LamF → (Nat → XK → Hp → VK → Prop) → TS} (F : FunD K x x params body scope [] [] (He.fAd K (x, none)) fd) (b : Binds K fd [y, z] []) (S : FnScope N [y, z] scope) (hm : mg x = some (.ref (He.fAd K (x, none))))
    (h : ∀ (cdv : Value) (X : Cx), X.prog = P → X.w = w → X.K = K → X.mg = mg → X.base = base → ∀ (s : Shared) (H : Hp), Room n (allCx X N x scope (He.fAd K (x, none)) cdv s H).A → ∀ (LS : List LamF) (tt : Nat → XK → Hp → VK → Prop),
      (∀ (sc : Scope) (s3 : Shared) (H3 : Hp) (C : Addr) (cl : List (Str × Addr)) (fp : List Addr) (i : Nat) (a : Str) (p1 p2 p3 : Pos), Backs (allCx X N x scope (He.fAd K (x, none)) cdv s H) s3 H3 sc (compEnvC sc cl C (allCx X N x scope (He.fAd K (x, none)) cdv s H).env) fp →
        Gl ((allCx X N x scope (He.fAd K (x, none)) cdv s H).blk s3 H3 sc (compEnvC sc cl C (allCx X N x scope (He.fAd K (x, none)) cdv s H).env) fp) told → N[i]? = some a → Vis (compEnvC sc cl C (allCx X N x scope (He.fAd K (x, none)) cdv s H).env).scope a → (told == ("__debug__" : Str)) = false → (a == ("__debug__" : Str)) = false → (a == ("__classdict__" : Str)) = false →
        PE ((allCx X N x scope (He.fAd K (x, none)) cdv s H).blk s3 H3 sc (compEnvC sc cl C (allCx X N x scope (He.fAd K (x, none)) cdv s H).env) fp) (.Call (.Name told p1) [.Name a p2] [] p3) (tToldV X.K LS tt i)) →
      PSs (allCx X N x scope (He.fAd K (x, none)) cdv s H) body (tr LS tt)) : AllFn P w K mg base x told N tr n := by
  obtain ⟨oc, od, dV, kV, doc, pm, an, cdv, ct, osl, rfl, lk, hcd, _, _⟩ := F.ex
  exact ⟨_, _, _, _, _, _, dV, kV, doc, pm, cdv, ct, oc, an, od, osl, lk, hcd, b, S, hm, F.kp, fun X => h cdv X⟩
theorem fn_ofM (F : FunD K x qual params body scope [] [] (He.fAd K at_) fd) (S : FnScope N ps scope) (len : ∀ vs H Q E, sp vs H Q E → vs.length = ps.length)
    (t : List LamF → XK → TS) (h : ∀ (A : Around) (outer : List Env) (s : Shared) (H : Hp) (E : XK), Room k (A.deeper (envOfC qual scope s.heap.objs.size (He.fAd K at_) (.ref (He.codeOf K at_)))) →
      ∃ LS, PSs (cxOf (L2.CX P w) P w K mg base N qual scope (He.fAd K at_) (.ref (He.codeOf K at_)) A outer s H E) body (t LS E))
    (pure_ : ∀ LS vs H Q E, sp vs H Q E → t LS E { nx := fun _ H' => Q .non H', rt := Q } (start N vs) H) : FnOk P w K mg base (L2.CX P w) (k + 1) (He.fAd K at_) fd ps sp := by
  obtain ⟨oc, od, dV, kV, doc, pm, an, cdv, ct, osl, rfl, lk, hcd, _, _⟩ := F.ex
  obtain ⟨c, rfl⟩ := He.codeIn_ref hcd
  have e : He.codeOf K at_ = c := He.codeOf_eq lk rfl
  rw [e] at h
  exact fn_of lk hcd S len fun A outer s H vs Q E hr hsp => let ⟨LS, g⟩ := h A outer s H E hr; ⟨t LS E, g, pure_ LS vs H Q E hsp⟩
end
end Rs

namespace Rs
open PySem PySem.Spec PyProof.Rows L2
def rGetL (K : PySem.W.Frag) : V → V → Hp → VK → Prop := fun x y H Q => ∃ (a : Addr) (xs : List V) (j : Nat) (z : V), x = .ref a ∧ y = .int ((j : Nat) : Int) ∧ SqL K H a xs ∧ xs[j]? = some z ∧ Q z H
abbrev xIpAdd : TIp := ipI fun i j => i + j
abbrev tAugL (K : PySem.W.Frag) (to ti te : TE) : TS := tAugS to ti te (rGetL K) xIpAdd rSetL
section
variable {X : Cx}
theorem pg_list : PGet X (rGetL X.K) := by
  intro pins s σ H x y v u Q I rx ry h
  obtain ⟨p, xs, j, z, rfl, rfl, hq, he, q⟩ := h
  cases rx
  obtain ⟨t, rfl⟩ := ry
  obtain ⟨its, r, pl, hz⟩ := I.list hq
  obtain ⟨w, ew, rw'⟩ := r.get he
  have hl := r.length
  have hn := line63
  have hj := (List.getElem?_eq_some_iff.mp he).1
  exact wpAny_getItem_list pl.isList (by omega) (by omega) (by simpa using ew) ⟨z, H, I, rw', q⟩
theorem ps_augL {o i e : Expr} {to ti te : TE} {tpos pos : Pos} (ho : PE X o to) (hi : PE X i ti) (he : PE X e te)
    (ha : ∀ ov iv new, augStore i ov iv new = (do holding [new, ov, iv] (setItem ov iv new); release [new, ov, iv] []; pure .next) := by intros; rfl) : PS X (.AugAssign (.Subscript o i tpos) .Add e pos) (tAugL X.K to ti te) := ps_augS ho hi pg_list he ip_add set_list ha
end
end Rs

namespace Rs
open PySem PySem.Spec PyProof.Rows L2
abbrev Hds := List (Option Pr)
def hd (hs : Hds) (s : Nat) : Option Pr := (hs.getD s none)
def hdV (hs : Hds) (s : Nat) : Pr := (hd hs s).getD c0.2
def pick (o : Ord) (hs : Hds) : Option Nat → Option Nat → Option Nat
  | none, b => b
  | some i, none => some i
  | some i, some j => if before o (hdV hs i) (hdV hs j) then some i else some j
theorem pick_ss {o : Ord} {hs : Hds} {i j : Nat} : pick o hs (some i) (some j) = if before o (hdV hs i) (hdV hs j) then some i else some j := rfl
theorem pick_sn {o : Ord} {hs : Hds} {i : Nat} : pick o hs (some i) none = some i := rfl
theorem pick_n {o : Ord} {hs : Hds} {b : Option Nat} : pick o hs none b = b := rfl
def leafOf (hs : Hds) (s : Nat) : Option Nat := if (hd hs s).isSome then some s else none
def bst (bs : List (Option Nat)) (k : Nat) : Option Nat := bs.getD k none
structure TreeOk (o : Ord) (hs : Hds) (bs : List (Option Nat)) (many : Nat) (bad : Nat → Prop) : Prop where
  len : bs.length = 2 * many
  leaf : ∀ s, s < many → bst bs (many + s) = leafOf hs s
  knot : ∀ k, 1 ≤ k → k < many → ¬ bad k → bst bs k = pick o hs (bst bs (2 * k)) (bst bs (2 * k + 1))
theorem tree_some {o : Ord} {hs : Hds} {bs : List (Option Nat)} {many : Nat} (T : TreeOk o hs bs many fun _ => False) : ∀ (n k : Nat), n = 2 * many - k → 1 ≤ k → k < 2 * many → ∀ s, bst bs k = some s → (hd hs s).isSome = true ∧ s < many := by
  intro n
  induction n using Nat.strongRecOn with
  | ind n ih =>
    intro k e h1 h2 s hs_
    by_cases hk : k < many
    · have q := T.knot k h1 hk (fun z => z)
      rw [hs_] at q
      have c1 := ih (2 * many - 2 * k) (by omega) (2 * k) rfl (by omega) (by omega)
      have c2 := ih (2 * many - (2 * k + 1)) (by omega) (2 * k + 1) rfl (by omega) (by omega)
      cases h3 : bst bs (2 * k) with
      | none =>
        rw [h3] at q
        exact c2 s q.symm
      | some i =>
        cases h4 : bst bs (2 * k + 1) with
        | none =>
          rw [h3, h4] at q
          exact c1 s (by rw [h3]; exact q.symm)
        | some j =>
          rw [h3, h4] at q
          rw [pick_ss] at q
          split at q
          · exact c1 s (by rw [h3]; exact q.symm)
          · exact c2 s (by rw [h4]; exact q.symm)
    · have q := T.leaf (k - many) (by omega)
      rw [show many + (k - many) = k by omega, hs_] at q
      unfold leafOf at q
      split at q
      · rename_i h
        cases q
        exact ⟨h, by omega⟩
      · cases q
theorem tree_up {ks : List Str} {o : Ord} (ho : ∀ t ∈ o, t.1 < ks.length) {hs : Hds} (hok : ∀ s p, hd hs s = some p → isRow ks p.2 = true) {bs : List (Option Nat)} {many : Nat} (T : TreeOk o hs bs many fun _ => False) {s : Nat} (hs_ : s < many) (hh : (hd hs s).isSome = true) :
    ∀ (d k : Nat), k = (many + s) / 2 ^ d → 1 ≤ k → ∃ t, bst bs k = some t ∧ before o (hdV hs s) (hdV hs t) = false
  | 0, k, e, _ => by
    rw [Nat.pow_zero, Nat.div_one] at e
    rw [e, T.leaf s hs_]
    unfold leafOf
    rw [if_pos hh]
    exact ⟨s, rfl, before_irrefl o _⟩
  | d + 1, k, e, h1 => by
    have e2 : k = ((many + s) / 2 ^ d) / 2 := by rw [e, Nat.pow_succ, Nat.div_div_eq_div_mul]
    obtain ⟨t, ht, hb⟩ := tree_up ho hok T hs_ hh d ((many + s) / 2 ^ d) rfl (by omega)
    have hkm : k < many := by
      have : (many + s) / 2 ^ d ≤ many + s := Nat.div_le_self _ _
      omega
    have val : ∀ j u, 1 ≤ j → j < 2 * many → bst bs j = some u → isRow ks (hdV hs u).2 = true := fun j u j1 j2 hu => by
      have := (tree_some T _ j rfl j1 j2 u hu).1
      unfold hdV
      cases hq : hd hs u with
      | none => rw [hq] at this; cases this
      | some p => exact hok u p hq
    have rs : isRow ks (hdV hs s).2 = true := by
      unfold hdV
      cases hq : hd hs s with
      | none => rw [hq] at hh; cases hh
      | some p => exact hok s p hq
    have q := T.knot k h1 hkm (fun z => z)
    have neg : ∀ a b c : Pr, isRow ks a.2 = true → isRow ks b.2 = true → isRow ks c.2 = true → before o b a = false → before o c b = false → before o c a = false := fun a b c ra rb rc n1 n2 => by
      cases hca : before o c a with
      | false => rfl
      | true =>
        rcases before_co o (cmp_of ho ra rb) (cmp_of ho rb rc) hca with z | z
        · rw [z] at n2; cases n2
        · rw [z] at n1; cases n1
    have k2 : (many + s) / 2 ^ d = 2 * k ∨ (many + s) / 2 ^ d = 2 * k + 1 := by omega
    rcases k2 with e3 | e3
    · rw [e3] at ht
      rw [ht] at q
      cases h4 : bst bs (2 * k + 1) with
      | none => rw [h4] at q; exact ⟨t, q, hb⟩
      | some j =>
        rw [h4] at q
        rw [pick_ss] at q
        split at q
        · exact ⟨t, q, hb⟩
        · rename_i hn
          refine ⟨j, q, neg _ _ _ (val (2 * k + 1) j (by omega) (by omega) h4) (val (2 * k) t (by omega) (by omega) ht) rs (by simpa using hn) hb⟩
    · rw [e3] at ht
      rw [ht] at q
      cases h4 : bst bs (2 * k) with
      | none => rw [h4] at q; exact ⟨t, q, hb⟩
      | some j =>
        rw [h4] at q
        rw [pick_ss] at q
        split at q
        · rename_i hy
          refine ⟨j, q, ?_⟩
          have rj := val (2 * k) j (by omega) (by omega) h4
          have rt := val (2 * k + 1) t (by omega) (by omega) ht
          cases hsj : before o (hdV hs s) (hdV hs j) with
          | false => rfl
          | true =>
            have := before_trans o (cmp_of ho rs rj) (cmp_of ho rj rt) hsj hy
            rw [hb] at this
            cases this
        · exact ⟨t, q, hb⟩
theorem tree_below {o : Ord} {hs : Hds} {bs : List (Option Nat)} {many : Nat} (T : TreeOk o hs bs many fun _ => False) : ∀ (n k : Nat), n = 2 * many - k → 1 ≤ k → k < 2 * many → ∀ s, bst bs k = some s → ∃ d, (many + s) / 2 ^ d = k := by
  intro n
  induction n using Nat.strongRecOn with
  | ind n ih =>
    intro k e h1 h2 s hs_
    by_cases hk : k < many
    · have q := T.knot k h1 hk (fun z => z)
      rw [hs_] at q
      have up : ∀ j, j / 2 = k → bst bs j = some s → 1 ≤ j → j < 2 * many → 2 * many - j < n → ∃ d, (many + s) / 2 ^ d = k := fun j ej hj j1 j2 jn => by
        obtain ⟨d, hd⟩ := ih (2 * many - j) jn j rfl j1 j2 s hj
        exact ⟨d + 1, by rw [Nat.pow_succ, ← Nat.div_div_eq_div_mul, hd, ej]⟩
      cases h3 : bst bs (2 * k) with
      | none =>
        rw [h3, pick_n] at q
        exact up (2 * k + 1) (by omega) q.symm (by omega) (by omega) (by omega)
      | some i =>
        cases h4 : bst bs (2 * k + 1) with
        | none =>
          rw [h3, h4, pick_sn] at q
          exact up (2 * k) (by omega) (by rw [h3, q]) (by omega) (by omega) (by omega)
        | some j =>
          rw [h3, h4, pick_ss] at q
          split at q
          · exact up (2 * k) (by omega) (by rw [h3, q]) (by omega) (by omega) (by omega)
          · exact up (2 * k + 1) (by omega) (by rw [h4, q]) (by omega) (by omega) (by omega)
    · have q := T.leaf (k - many) (by omega)
      rw [show many + (k - many) = k by omega, hs_] at q
      unfold leafOf at q
      split at q
      · cases q
        exact ⟨0, by rw [Nat.pow_zero, Nat.div_one]; omega⟩
      · cases q
def Above (n k : Nat) : Prop := 1 ≤ k ∧ ∃ d, n / 2 ^ (d + 1) = k
theorem bst_set {bs : List (Option Nat)} {i k : Nat} {v : Option Nat} (h : i < bs.length) : bst (bs.set i v) k = if k = i then v else bst bs k := getD_set v h
theorem above_half {n k : Nat} : Above n k ↔ (k = n / 2 ∧ 1 ≤ k) ∨ Above (n / 2) k := by
  constructor
  · rintro ⟨h1, d, e⟩
    cases d with
    | zero => rw [Nat.pow_one] at e; exact .inl ⟨e.symm, h1⟩
    | succ d => exact .inr ⟨h1, d, by rw [← e, Nat.div_div_eq_div_mul, ← Nat.pow_succ']⟩
  · rintro (⟨e, h1⟩ | ⟨h1, d, e⟩)
    · exact ⟨h1, 0, by rw [Nat.pow_one]; exact e.symm⟩
    · exact ⟨h1, d + 1, by rw [← e, Nat.div_div_eq_div_mul, ← Nat.pow_succ']⟩
theorem tree_leaf {o : Ord} {hs : Hds} {bs : List (Option Nat)} {many s : Nat} (T : TreeOk o hs bs many fun _ => False) (h1 : s < hs.length) (h2 : s < many) (h : Option Pr) :
    TreeOk o (hs.set s h) (bs.set (many + s) (if h.isSome then some s else none)) many (Above (many + s)) := by
  have hl : many + s < bs.length := by rw [T.len]; omega
  have hdS : ∀ t, hd (hs.set s h) t = if t = s then h else hd hs t := fun t => by
    unfold hd
    exact getD_set h h1
  refine ⟨by rw [List.length_set]; exact T.len, fun t ht => ?_, fun k k1 k2 nb => ?_⟩
  · rw [bst_set hl]
    unfold leafOf
    rw [hdS]
    by_cases e : t = s
    · subst e
      rw [if_pos rfl, if_pos rfl]
    · rw [if_neg (by omega), if_neg e]
      have := T.leaf t ht
      unfold leafOf at this
      exact this
  · have nk : ∀ j, j / 2 = k → 1 ≤ j → j < 2 * many → bst bs j ≠ some s ∧ j ≠ many + s := fun j ej j1 j2 => by
      refine ⟨fun z => nb ?_, fun z => nb ?_⟩
      · obtain ⟨d, hd⟩ := tree_below T _ j rfl j1 j2 s z
        exact ⟨k1, d, by rw [Nat.pow_succ, ← Nat.div_div_eq_div_mul, hd, ej]⟩
      · exact ⟨k1, 0, by rw [Nat.pow_one, ← z]; exact ej⟩
    obtain ⟨a1, a2⟩ := nk (2 * k) (by omega) (by omega) (by omega)
    obtain ⟨b1, b2⟩ := nk (2 * k + 1) (by omega) (by omega) (by omega)
    have a3 : bst (bs.set (many + s) (if h.isSome then some s else none)) (2 * k) = bst bs (2 * k) := by rw [bst_set hl, if_neg a2]
    have b3 : bst (bs.set (many + s) (if h.isSome then some s else none)) (2 * k + 1) = bst bs (2 * k + 1) := by rw [bst_set hl, if_neg b2]
    have c3 : bst (bs.set (many + s) (if h.isSome then some s else none)) k = bst bs k := by rw [bst_set hl, if_neg (by omega)]
    rw [a3, b3, c3, T.knot k k1 k2 (fun z => z)]
    have hv : ∀ i, i ≠ s → hdV (hs.set s h) i = hdV hs i := fun i hi => by
      unfold hdV
      rw [hdS, if_neg hi]
    cases h3 : bst bs (2 * k) with
    | none => rfl
    | some i =>
      cases h4 : bst bs (2 * k + 1) with
      | none => rfl
      | some j =>
        rw [pick_ss, pick_ss, hv i (fun z => a1 (by rw [h3, z])), hv j (fun z => b1 (by rw [h4, z]))]
theorem tree_knot {o : Ord} {hs : Hds} {bs : List (Option Nat)} {many n : Nat} (T : TreeOk o hs bs many (Above n)) (h1 : 1 ≤ n / 2) (h2 : n / 2 < many) :
    TreeOk o hs (bs.set (n / 2) (pick o hs (bst bs (2 * (n / 2))) (bst bs (2 * (n / 2) + 1)))) many (Above (n / 2)) := by
  have hl : n / 2 < bs.length := by rw [T.len]; omega
  refine ⟨by rw [List.length_set]; exact T.len, fun t ht => ?_, fun k k1 k2 nb => ?_⟩
  · rw [bst_set hl, if_neg (by omega)]
    exact T.leaf t ht
  · have ne : ∀ j, j / 2 = k → j ≠ n / 2 := fun j ej z => nb ⟨k1, 0, by rw [Nat.pow_one, ← z]; exact ej⟩
    rw [bst_set (k := 2 * k) hl, if_neg (ne _ (by omega)), bst_set (k := 2 * k + 1) hl, if_neg (ne _ (by omega)), bst_set hl]
    by_cases e : k = n / 2
    · subst e
      rw [if_pos rfl]
    · rw [if_neg e]
      refine T.knot k k1 k2 fun z => ?_
      rcases above_half.mp z with ⟨y, _⟩ | y
      · exact e y
      · exact nb y
theorem above_one {k : Nat} : ¬ Above 1 k := fun ⟨h, d, e⟩ => by
  have : 1 / 2 ^ (d + 1) = 0 := Nat.div_eq_of_lt (by rw [Nat.pow_succ]; have := Nat.one_le_two_pow (n := d); omega)
  omega
theorem TreeOk.imp {o : Ord} {hs : Hds} {bs : List (Option Nat)} {many : Nat} {p q : Nat → Prop} (T : TreeOk o hs bs many p) (h : ∀ k, p k → q k) : TreeOk o hs bs many q := ⟨T.len, T.leaf, fun k a b c => T.knot k a b fun z => c (h k z)⟩
theorem tree_down {o : Ord} {hs : Hds} {bs : List (Option Nat)} {many k : Nat} (T : TreeOk o hs bs many fun j => j ≤ k) (h1 : 1 ≤ k) (h2 : k < many) :
    TreeOk o hs (bs.set k (pick o hs (bst bs (2 * k)) (bst bs (2 * k + 1)))) many fun j => j ≤ k - 1 := by
  have hl : k < bs.length := by rw [T.len]; omega
  refine ⟨by rw [List.length_set]; exact T.len, fun t ht => ?_, fun j j1 j2 nb => ?_⟩
  · rw [bst_set hl, if_neg (by omega)]
    exact T.leaf t ht
  · rw [bst_set (k := 2 * j) hl, if_neg (by omega), bst_set (k := 2 * j + 1) hl, if_neg (by omega), bst_set hl]
    by_cases e : j = k
    · subst e
      rw [if_pos rfl]
    · rw [if_neg e]
      exact T.knot j j1 j2 (by omega)
theorem tree_top {ks : List Str} {o : Ord} (ho : ∀ t ∈ o, t.1 < ks.length) {hs : Hds} (hok : ∀ s p, hd hs s = some p → isRow ks p.2 = true) {bs : List (Option Nat)} {e : Nat} (T : TreeOk o hs bs (2 ^ e) fun _ => False) (hl : hs.length ≤ 2 ^ e) :
    (bst bs 1 = none → ∀ s, hd hs s = none) ∧ ∀ t, bst bs 1 = some t → ∃ p, hd hs t = some p ∧ ∀ s q, hd hs s = some q → before o q p = false := by
  have pos := Nat.one_le_two_pow (n := e)
  have up : ∀ s q, hd hs s = some q → ∃ t, bst bs 1 = some t ∧ before o q (hdV hs t) = false := fun s q hq => by
    have sl : s < hs.length := by
      by_cases c : s < hs.length
      · exact c
      · unfold hd at hq
        rw [List.getD_eq_getElem?_getD, List.getElem?_eq_none (by omega)] at hq
        cases hq
    have one : (2 ^ e + s) / 2 ^ e = 1 := by
      rw [Nat.add_div_left _ (by omega), Nat.div_eq_of_lt (by omega)]
    obtain ⟨t, a, b⟩ := tree_up ho hok T (s := s) (by omega) (by rw [hq]; rfl) e 1 one.symm (Nat.le_refl _)
    refine ⟨t, a, ?_⟩
    unfold hdV at b
    rw [hq] at b
    exact b
  refine ⟨fun h s => ?_, fun t h => ?_⟩
  · cases hq : hd hs s with
    | none => rfl
    | some q =>
      obtain ⟨t, a, _⟩ := up s q hq
      rw [h] at a
      cases a
  · obtain ⟨a, _⟩ := tree_some T _ 1 rfl (Nat.le_refl _) (by omega) t h
    cases hp : hd hs t with
    | none => rw [hp] at a; cases a
    | some p =>
      refine ⟨p, rfl, fun s q hq => ?_⟩
      obtain ⟨t', b1, b2⟩ := up s q hq
      rw [h] at b1
      cases b1
      unfold hdV at b2
      rw [hp] at b2
      exact b2
end Rs

namespace Rs
open PySem PySem.Spec PyProof.Rows L2
structure TxtTree (K : PySem.W.Frag) : Prop where
  cl : Cls K (He.ga K "Tree")
  n_order : NoAttr K (He.ga K "Tree") "order"
  n_heads : NoAttr K (He.ga K "Tree") "heads"
  n_many : NoAttr K (He.ga K "Tree") "many"
  n_looks : NoAttr K (He.ga K "Tree") "looks"
  n_best : NoAttr K (He.ga K "Tree") "best"
def f_Tree (x0 x1 x2 x3 x4 : V) : List (Str × V) := [(("order" : Str), x0), (("heads" : Str), x1), (("many" : Str), x2), (("looks" : Str), x3), (("best" : Str), x4)]
def TreeOb (K : PySem.W.Frag) (H : Hp) (p : Addr) (x0 x1 x2 x3 x4 : V) : Prop := ∃ dx, H p = some (.ins (He.ga K "Tree") dx (f_Tree x0 x1 x2 x3 x4))
section
variable {K : PySem.W.Frag} {x0 x1 x2 x3 x4 y : V} {H : Hp} {Q : VK} {p : Addr} {D : Ends} {σ : L2.St}
theorem fl_Tree_order : (f_Tree x0 x1 x2 x3 x4).lookup ("order" : Str) = some x0 := by
  unfold f_Tree
  rw [lk_hd]
theorem g_Tree_order (T : TxtTree K) (h : TreeOb K H p x0 x1 x2 x3 x4) (q : Q x0 H) : rFld K "order" (.ref p) H Q := let ⟨dx, h⟩ := h; ⟨p, _, dx, _, _, rfl, h, T.cl, T.n_order, fl_Tree_order, q⟩
theorem fl_Tree_heads : (f_Tree x0 x1 x2 x3 x4).lookup ("heads" : Str) = some x1 := by
  unfold f_Tree
  rw [lk_tl (by decide +kernel), lk_hd]
theorem g_Tree_heads (T : TxtTree K) (h : TreeOb K H p x0 x1 x2 x3 x4) (q : Q x1 H) : rFld K "heads" (.ref p) H Q := let ⟨dx, h⟩ := h; ⟨p, _, dx, _, _, rfl, h, T.cl, T.n_heads, fl_Tree_heads, q⟩
theorem fl_Tree_many : (f_Tree x0 x1 x2 x3 x4).lookup ("many" : Str) = some x2 := by
  unfold f_Tree
  rw [lk_tl (by decide +kernel), lk_tl (by decide +kernel), lk_hd]
theorem g_Tree_many (T : TxtTree K) (h : TreeOb K H p x0 x1 x2 x3 x4) (q : Q x2 H) : rFld K "many" (.ref p) H Q := let ⟨dx, h⟩ := h; ⟨p, _, dx, _, _, rfl, h, T.cl, T.n_many, fl_Tree_many, q⟩
theorem fl_Tree_looks : (f_Tree x0 x1 x2 x3 x4).lookup ("looks" : Str) = some x3 := by
  unfold f_Tree
  rw [lk_tl (by decide +kernel), lk_tl (by decide +kernel), lk_tl (by decide +kernel), lk_hd]
theorem pf_Tree_looks : putF "looks" y (f_Tree x0 x1 x2 x3 x4) = f_Tree x0 x1 x2 y x4 := by
  unfold f_Tree
  rw [put_tl (by decide +kernel), put_tl (by decide +kernel), put_tl (by decide +kernel), put_hd]
theorem g_Tree_looks (T : TxtTree K) (h : TreeOb K H p x0 x1 x2 x3 x4) (q : Q x3 H) : rFld K "looks" (.ref p) H Q := let ⟨dx, h⟩ := h; ⟨p, _, dx, _, _, rfl, h, T.cl, T.n_looks, fl_Tree_looks, q⟩
theorem s_Tree_looks (T : TxtTree K) (h : TreeOb K H p x0 x1 x2 x3 x4) (q : ∀ dx, H p = some (.ins (He.ga K "Tree") dx (f_Tree x0 x1 x2 x3 x4)) → D.nx σ (upd H p (.ins (He.ga K "Tree") dx (f_Tree x0 x1 x2 y x4)))) : rSFl K "looks" (.ref p) y D σ H := by
  obtain ⟨dx, h⟩ := h
  refine ⟨p, _, dx, _, rfl, h, T.cl, T.n_looks, by show 5 < 1000; decide, ?_⟩
  rw [pf_Tree_looks]
  exact q dx h
theorem fl_Tree_best : (f_Tree x0 x1 x2 x3 x4).lookup ("best" : Str) = some x4 := by
  unfold f_Tree
  rw [lk_tl (by decide +kernel), lk_tl (by decide +kernel), lk_tl (by decide +kernel), lk_tl (by decide +kernel), lk_hd]
theorem g_Tree_best (T : TxtTree K) (h : TreeOb K H p x0 x1 x2 x3 x4) (q : Q x4 H) : rFld K "best" (.ref p) H Q := let ⟨dx, h⟩ := h; ⟨p, _, dx, _, _, rfl, h, T.cl, T.n_best, fl_Tree_best, q⟩
theorem no_Tree_lesser : (f_Tree x0 x1 x2 x3 x4).lookup ("lesser" : Str) = none := by
  unfold f_Tree
  rw [lk_tl (by decide +kernel), lk_tl (by decide +kernel), lk_tl (by decide +kernel), lk_tl (by decide +kernel), lk_tl (by decide +kernel), lk_nil]
theorem no_Tree_first : (f_Tree x0 x1 x2 x3 x4).lookup ("first" : Str) = none := by
  unfold f_Tree
  rw [lk_tl (by decide +kernel), lk_tl (by decide +kernel), lk_tl (by decide +kernel), lk_tl (by decide +kernel), lk_tl (by decide +kernel), lk_nil]
theorem no_Tree_turn : (f_Tree x0 x1 x2 x3 x4).lookup ("turn" : Str) = none := by
  unfold f_Tree
  rw [lk_tl (by decide +kernel), lk_tl (by decide +kernel), lk_tl (by decide +kernel), lk_tl (by decide +kernel), lk_tl (by decide +kernel), lk_nil]
end
def i_Tree_1 (x0 : V) : List (Str × V) := [(("order" : Str), x0)]
def i_Tree_2 (x0 x1 : V) : List (Str × V) := [(("order" : Str), x0), (("heads" : Str), x1)]
def i_Tree_3 (x0 x1 x2 : V) : List (Str × V) := [(("order" : Str), x0), (("heads" : Str), x1), (("many" : Str), x2)]
def i_Tree_4 (x0 x1 x2 x3 : V) : List (Str × V) := [(("order" : Str), x0), (("heads" : Str), x1), (("many" : Str), x2), (("looks" : Str), x3)]
def i_Tree_5 (x0 x1 x2 x3 x4 : V) : List (Str × V) := [(("order" : Str), x0), (("heads" : Str), x1), (("many" : Str), x2), (("looks" : Str), x3), (("best" : Str), x4)]
section
variable {K : PySem.W.Frag} {x0 x1 x2 x3 x4 y : V} {H : Hp} {Q : VK} {p dx : Addr} {D : Ends} {σ : L2.St}
theorem n_Tree_order (T : TxtTree K) (h : H p = some (.ins (He.ga K "Tree") dx [])) (q : D.nx σ (upd H p (.ins (He.ga K "Tree") dx (i_Tree_1  y)))) : rSFl K "order" (.ref p) y D σ H := by
  refine ⟨p, _, dx, _, rfl, h, T.cl, T.n_order, by show 0 < 1000; decide, ?_⟩
  have e : putF "order" y [] = i_Tree_1  y := by
    rw [put_nil] <;> rfl
  rw [e]
  exact q
theorem n_Tree_heads (T : TxtTree K) (h : H p = some (.ins (He.ga K "Tree") dx (i_Tree_1 x0))) (q : D.nx σ (upd H p (.ins (He.ga K "Tree") dx (i_Tree_2 x0 y)))) : rSFl K "heads" (.ref p) y D σ H := by
  refine ⟨p, _, dx, _, rfl, h, T.cl, T.n_heads, by show 1 < 1000; decide, ?_⟩
  have e : putF "heads" y (i_Tree_1 x0) = i_Tree_2 x0 y := by
    unfold i_Tree_1
    rw [put_tl (by decide +kernel), put_nil] <;> rfl
  rw [e]
  exact q
theorem n_Tree_many (T : TxtTree K) (h : H p = some (.ins (He.ga K "Tree") dx (i_Tree_2 x0 x1))) (q : D.nx σ (upd H p (.ins (He.ga K "Tree") dx (i_Tree_3 x0 x1 y)))) : rSFl K "many" (.ref p) y D σ H := by
  refine ⟨p, _, dx, _, rfl, h, T.cl, T.n_many, by show 2 < 1000; decide, ?_⟩
  have e : putF "many" y (i_Tree_2 x0 x1) = i_Tree_3 x0 x1 y := by
    unfold i_Tree_2
    rw [put_tl (by decide +kernel), put_tl (by decide +kernel), put_nil] <;> rfl
  rw [e]
  exact q
theorem n_Tree_looks (T : TxtTree K) (h : H p = some (.ins (He.ga K "Tree") dx (i_Tree_3 x0 x1 x2))) (q : D.nx σ (upd H p (.ins (He.ga K "Tree") dx (i_Tree_4 x0 x1 x2 y)))) : rSFl K "looks" (.ref p) y D σ H := by
  refine ⟨p, _, dx, _, rfl, h, T.cl, T.n_looks, by show 3 < 1000; decide, ?_⟩
  have e : putF "looks" y (i_Tree_3 x0 x1 x2) = i_Tree_4 x0 x1 x2 y := by
    unfold i_Tree_3
    rw [put_tl (by decide +kernel), put_tl (by decide +kernel), put_tl (by decide +kernel), put_nil] <;> rfl
  rw [e]
  exact q
theorem n_Tree_best (T : TxtTree K) (h : H p = some (.ins (He.ga K "Tree") dx (i_Tree_4 x0 x1 x2 x3))) (q : D.nx σ (upd H p (.ins (He.ga K "Tree") dx (i_Tree_5 x0 x1 x2 x3 y)))) : rSFl K "best" (.ref p) y D σ H := by
  refine ⟨p, _, dx, _, rfl, h, T.cl, T.n_best, by show 4 < 1000; decide, ?_⟩
  have e : putF "best" y (i_Tree_4 x0 x1 x2 x3) = i_Tree_5 x0 x1 x2 x3 y := by
    unfold i_Tree_4
    rw [put_tl (by decide +kernel), put_tl (by decide +kernel), put_tl (by decide +kernel), put_tl (by decide +kernel), put_nil] <;> rfl
  rw [e]
  exact q
theorem gi_Tree_4_heads (T : TxtTree K) (h : H p = some (.ins (He.ga K "Tree") dx (i_Tree_4 x0 x1 x2 x3))) (q : Q x1 H) : rFld K "heads" (.ref p) H Q := by
  refine ⟨p, _, dx, _, _, rfl, h, T.cl, T.n_heads, ?_, q⟩
  unfold i_Tree_4
  rw [lk_tl (by decide +kernel), lk_hd]
theorem gi_Tree_4_many (T : TxtTree K) (h : H p = some (.ins (He.ga K "Tree") dx (i_Tree_4 x0 x1 x2 x3))) (q : Q x2 H) : rFld K "many" (.ref p) H Q := by
  refine ⟨p, _, dx, _, _, rfl, h, T.cl, T.n_many, ?_, q⟩
  unfold i_Tree_4
  rw [lk_tl (by decide +kernel), lk_tl (by decide +kernel), lk_hd]
theorem si_Tree_4_many (T : TxtTree K) (h : H p = some (.ins (He.ga K "Tree") dx (i_Tree_4 x0 x1 x2 x3))) (q : D.nx σ (upd H p (.ins (He.ga K "Tree") dx (i_Tree_4 x0 x1 y x3)))) : rSFl K "many" (.ref p) y D σ H := by
  refine ⟨p, _, dx, _, rfl, h, T.cl, T.n_many, by show 4 < 1000; decide, ?_⟩
  have e : putF "many" y (i_Tree_4 x0 x1 x2 x3) = i_Tree_4 x0 x1 y x3 := by
    unfold i_Tree_4
    rw [put_tl (by decide +kernel), put_tl (by decide +kernel), put_hd]
  rw [e]
  exact q
end
theorem But.tupOf {S : List Addr} {H H' : Hp} (k : But S H H') (h : ∀ b ∈ S, ∀ xs, H b ≠ some (.tup xs)) : TupLe H H' := fun c xs e => k c _ e (fun hm => h c hm xs e)
theorem nt_lst {H : Hp} {b : Addr} {vs : List V} (h : H b = some (.lst vs)) : ∀ xs, H b ≠ some (.tup xs) := fun xs e => by rw [h] at e; cases e
theorem nt_ins {H : Hp} {b C dx : Addr} {fs : List (Str × V)} (h : H b = some (.ins C dx fs)) : ∀ xs, H b ≠ some (.tup xs) := fun xs e => by rw [h] at e; cases e
theorem all3 {P : Addr → Prop} {a b c : Addr} (h1 : P a) (h2 : P b) (h3 : P c) : ∀ x ∈ [a, b, c], P x := fun x hx => by
  simp only [List.mem_cons, List.not_mem_nil, or_false] at hx
  rcases hx with rfl | rfl | rfl <;> assumption
theorem ne3 {a b c d : Addr} (h1 : a ≠ b) (h2 : a ≠ c) (h3 : a ≠ d) : a ∉ [b, c, d] := fun hm => by
  simp only [List.mem_cons, List.not_mem_nil, or_false] at hm
  rcases hm with h | h | h
  · exact h1 h
  · exact h2 h
  · exact h3 h
def NatAt : Rel (Option Nat) := fun _ v q => match q with
  | none => v = .non
  | some n => v = .int ((n : Nat) : Int)
theorem NatAt.st : Stable NatAt := fun _ _ _ _ _ h => h
structure TreeS (K : PySem.W.Frag) (H : Hp) (p lo lh lb : Addr) (o : Ord) (hs : Hds) (bs : List (Option Nat)) (many : Nat) (looks : Int) : Prop where
  ob : TreeOb K H p (.ref lo) (.ref lh) (.int (many : Int)) (.int looks) (.ref lb)
  ord : Lst TurnAt H lo o
  heads : Lst OptAt H lh hs
  best : Lst NatAt H lb bs
  nhb : lh ≠ lb
  noh : lo ≠ lh
  nob : lo ≠ lb
theorem TreeOb.keep {K : PySem.W.Frag} {H H' : Hp} {p : Addr} {x0 x1 x2 x3 x4 : V} (h : TreeOb K H p x0 x1 x2 x3 x4) (k : ∀ o, H p = some o → H' p = some o) : TreeOb K H' p x0 x1 x2 x3 x4 := let ⟨dx, e⟩ := h; ⟨dx, k _ e⟩
section
variable {K : PySem.W.Frag} {H H' : Hp} {p lo lh lb : Addr} {o : Ord} {hs hs' : Hds} {bs bs' : List (Option Nat)} {many : Nat} {looks looks' : Int} {vs : List V}
theorem TreeS.pne (T : TreeS K H p lo lh lb o hs bs many looks) : p ≠ lo ∧ p ≠ lh ∧ p ≠ lb := by
  obtain ⟨dx, e⟩ := T.ob
  obtain ⟨_, e1, _⟩ := T.ord
  obtain ⟨_, e2, _⟩ := T.heads
  obtain ⟨_, e3, _⟩ := T.best
  exact ⟨ne_of e e1 (by intro z; cases z), ne_of e e2 (by intro z; cases z), ne_of e e3 (by intro z; cases z)⟩
theorem TreeS.tup (T : TreeS K H p lo lh lb o hs bs many looks) (k : But [p, lh, lb] H H') : TupLe H H' := by
  obtain ⟨dx, e⟩ := T.ob
  obtain ⟨_, e2, _⟩ := T.heads
  obtain ⟨_, e3, _⟩ := T.best
  exact k.tupOf (all3 (nt_ins e) (nt_lst e2) (nt_lst e3))
theorem TreeS.keep (T : TreeS K H p lo lh lb o hs bs many looks) (t : TupLe H H') (k : ∀ b, b = p ∨ b = lo ∨ b = lh ∨ b = lb → ∀ u, H b = some u → H' b = some u) : TreeS K H' p lo lh lb o hs bs many looks :=
  ⟨T.ob.keep (k _ (.inl rfl)), T.ord.keep TurnAt.st t (k _ (.inr (.inl rfl))), T.heads.keep OptAt.st t (k _ (.inr (.inr (.inl rfl)))), T.best.keep NatAt.st t (k _ (.inr (.inr (.inr rfl)))), T.nhb, T.noh, T.nob⟩
theorem TreeS.same (T : TreeS K H p lo lh lb o hs bs many looks) (s : Same H H') : TreeS K H' p lo lh lb o hs bs many looks := T.keep (TupLe.same s) fun b _ u => s b u
theorem TreeS.looked {dx : Addr} (T : TreeS K H p lo lh lb o hs bs many looks) : TreeS K (upd H p (.ins (He.ga K "Tree") dx (f_Tree (.ref lo) (.ref lh) (.int (many : Int)) (.int looks') (.ref lb)))) p lo lh lb o hs bs many looks' ∧ But [p] H (upd H p (.ins (He.ga K "Tree") dx (f_Tree (.ref lo) (.ref lh) (.int (many : Int)) (.int looks') (.ref lb)))) := by
  obtain ⟨n1, n2, n3⟩ := T.pne
  have k : But [p] H (upd H p (.ins (He.ga K "Tree") dx (f_Tree (.ref lo) (.ref lh) (.int (many : Int)) (.int looks') (.ref lb)))) := (But.refl _ H).put (by simp)
  have t := T.tup (k.wide fun x hx => by rw [List.mem_singleton] at hx; subst hx; simp)
  exact ⟨⟨⟨dx, upd_same⟩, T.ord.keep TurnAt.st t fun u e => up e n1.symm, T.heads.keep OptAt.st t fun u e => up e n2.symm, T.best.keep NatAt.st t fun u e => up e n3.symm, T.nhb, T.noh, T.nob⟩, k⟩
theorem TreeS.bested (T : TreeS K H p lo lh lb o hs bs many looks) (q : Paired (NatAt (upd H lb (.lst vs))) vs bs') : TreeS K (upd H lb (.lst vs)) p lo lh lb o hs bs' many looks ∧ But [lb] H (upd H lb (.lst vs)) := by
  obtain ⟨n1, n2, n3⟩ := T.pne
  have k : But [lb] H (upd H lb (.lst vs)) := (But.refl _ H).put (by simp)
  have t := T.tup (k.wide fun x hx => by rw [List.mem_singleton] at hx; subst hx; simp)
  exact ⟨⟨T.ob.keep fun u e => up e n3, T.ord.keep TurnAt.st t fun u e => up e T.nob, T.heads.keep OptAt.st t fun u e => up e T.nhb, ⟨vs, upd_same, q⟩, T.nhb, T.noh, T.nob⟩, k⟩
theorem TreeS.headed (T : TreeS K H p lo lh lb o hs bs many looks) (q : Paired (OptAt H) vs hs') : TreeS K (upd H lh (.lst vs)) p lo lh lb o hs' bs many looks ∧ But [lh] H (upd H lh (.lst vs)) := by
  obtain ⟨n1, n2, n3⟩ := T.pne
  have k : But [lh] H (upd H lh (.lst vs)) := (But.refl _ H).put (by simp)
  have t := T.tup (k.wide fun x hx => by rw [List.mem_singleton] at hx; subst hx; simp)
  exact ⟨⟨T.ob.keep fun u e => up e n2, T.ord.keep TurnAt.st t fun u e => up e T.noh, ⟨vs, upd_same, Paired.tl OptAt.st t q⟩, T.best.keep NatAt.st t fun u e => up e T.nhb.symm, T.nhb, T.noh, T.nob⟩, k⟩
end
theorem opt_some {H : Hp} {v : V} {q : Pr} (h : OptAt H v (some q)) : decide (v = V.non) = false := by
  obtain ⟨w, ⟨a, rfl, _⟩, _⟩ := (show PairAt H v q from h)
  rfl
def lk : Option Nat → Option Nat → Int
  | some _, some _ => 1
  | _, _ => 0
theorem tree_some' {o : Ord} {hs : Hds} {bs : List (Option Nat)} {many : Nat} {bad : Nat → Prop} (T : TreeOk o hs bs many bad) (cl : ∀ k j, 1 ≤ k → j / 2 = k → bad j → bad k) : ∀ (n k : Nat), n = 2 * many - k → 1 ≤ k → k < 2 * many → ¬ bad k → ∀ s, bst bs k = some s → (hd hs s).isSome = true ∧ s < many := by
  intro n
  induction n using Nat.strongRecOn with
  | ind n ih =>
    intro k e h1 h2 nb s hs_
    by_cases hk : k < many
    · have q := T.knot k h1 hk nb
      rw [hs_] at q
      have c1 := ih (2 * many - 2 * k) (by omega) (2 * k) rfl (by omega) (by omega) (fun z => nb (cl k _ h1 (by omega) z))
      have c2 := ih (2 * many - (2 * k + 1)) (by omega) (2 * k + 1) rfl (by omega) (by omega) (fun z => nb (cl k _ h1 (by omega) z))
      cases h3 : bst bs (2 * k) with
      | none =>
        rw [h3] at q
        exact c2 s q.symm
      | some i =>
        cases h4 : bst bs (2 * k + 1) with
        | none =>
          rw [h3, h4] at q
          exact c1 s (by rw [h3]; exact q.symm)
        | some j =>
          rw [h3, h4] at q
          rw [pick_ss] at q
          split at q
          · exact c1 s (by rw [h3]; exact q.symm)
          · exact c2 s (by rw [h4]; exact q.symm)
    · have q := T.leaf (k - many) (by omega)
      rw [show many + (k - many) = k by omega, hs_] at q
      unfold leafOf at q
      split at q
      · rename_i h
        cases q
        exact ⟨h, by omega⟩
      · cases q
theorem above_up {n : Nat} : ∀ k j, 1 ≤ k → j / 2 = k → Above n j → Above n k := fun k j h1 e ⟨_, d, hd⟩ => ⟨h1, d + 1, by rw [Nat.pow_succ, ← Nat.div_div_eq_div_mul, hd, e]⟩
theorem above_kids {n j : Nat} (h1 : 1 ≤ j) (h : j / 2 = n / 2) : ¬ Above n j := fun ⟨_, d, e⟩ => by
  have : n / 2 ^ (d + 1) ≤ n / 2 := Nat.div_le_div_left (by rw [Nat.pow_succ]; have := Nat.one_le_two_pow (n := d); omega) (by omega)
  omega
abbrev N_Tree_lesser : List Str := ["self", "one", "other"]
abbrev P_Tree_lesser : List Str := ["self", "one", "other"]
def HdOk (ks : List Str) (hs : Hds) (a : Option Nat) : Prop := ∀ i, a = some i → ∃ q, hs[i]? = some (some q) ∧ isRow ks q.2 = true
theorem HdOk.of {ks : List Str} {hs : Hds} {a : Option Nat} (hok : ∀ s p, hd hs s = some p → isRow ks p.2 = true) (h : ∀ s, a = some s → (hd hs s).isSome = true) : HdOk ks hs a := fun i hi => by
  have := h i hi
  cases hq : hd hs i with
  | none => rw [hq] at this; cases this
  | some q =>
    refine ⟨q, ?_, hok i q hq⟩
    unfold hd at hq
    rw [List.getD_eq_getElem?_getD] at hq
    cases e : hs[i]? with
    | none => rw [e] at hq; cases hq
    | some z => rw [e] at hq; rw [← hq]; rfl
def sp_Tree_lesser (K : PySem.W.Frag) : Sp := fun vs H Q E => match vs with
  | [s, av, bv] => ∃ p lo lh lb o hs bs many looks ks a b, s = .ref p ∧ NatAt H av a ∧ NatAt H bv b ∧ TreeS K H p lo lh lb o hs bs many looks ∧ (∀ t ∈ o, t.1 < ks.length) ∧ HdOk ks hs a ∧ HdOk ks hs b ∧
    ∀ v H', NatAt H' v (pick o hs a b) → TreeS K H' p lo lh lb o hs bs many (looks + lk a b) → But [p] H H' → Q v H'
  | _ => False
def t_Tree_lesser (K : PySem.W.Frag) (E : XK) : TS := (tSeq (tIfS (tOr (tTest (tOpC rIsN (tVar 1) .non)) (tTest (tOpC rIsN (tVar 2) .non))) (tRet (tIf (tTest (tOpC rIsN (tVar 1) .non)) (tVar 2) (tVar 1))) tNext)
  (tSeq (sFl K (tVar 0) (tOpC xAdd (tFl K (tVar 0) "looks") (.int 1)) "looks")
   (tRet (tIf (tB (tCall (sp_is_before K) [] E (tCons (tFl K (tVar 0) "order") (tCons (tOp (rIxL K) (tFl K (tVar 0) "heads") (tVar 1)) (tCons (tOp (rIxL K) (tFl K (tVar 0) "heads") (tVar 2)) tNil))))) (tVar 1) (tVar 2)))))
theorem pure_Tree_lesser {K : PySem.W.Frag} (T : TxtTree K) : ∀ vs H Q E, sp_Tree_lesser K vs H Q E → t_Tree_lesser K E { nx := fun _ H' => Q .non H', rt := Q } (start N_Tree_lesser vs) H := by
  intro vs H Q E h
  match vs, h with
  | [s, av, bv], h =>
    obtain ⟨p, lo, lh, lb, o, hs, bs, many, looks, ks, a, b, rfl, ha, hb, S, hcol, oka, okb, k⟩ := h
    cases a with
    | none =>
      have ha : av = .non := ha
      subst ha
      exact ⟨_, rfl, rfl, _, rfl, _, rfl, rfl, _, rfl, _, rfl, k _ _ hb (by show TreeS K H p lo lh lb o hs bs many (looks + 0); rw [Int.add_zero]; exact S) (But.refl _ H)⟩
    | some i =>
      have ha : av = .int ((i : Nat) : Int) := ha
      subst ha
      cases b with
      | none =>
        have hb : bv = .non := hb
        subst hb
        exact ⟨_, rfl, rfl, _, rfl, _, rfl, rfl, _, rfl, _, rfl, rfl, _, rfl, _, rfl, k _ _ rfl (by show TreeS K H p lo lh lb o hs bs many (looks + 0); rw [Int.add_zero]; exact S) (But.refl _ H)⟩
      | some j =>
        have hb : bv = .int ((j : Nat) : Int) := hb
        subst hb
        refine ⟨_, rfl, rfl, _, rfl, _, rfl, rfl, _, rfl, ?_⟩
        refine ⟨_, rfl, g_Tree_looks T S.ob ⟨_, _, rfl, rfl, _, rfl, s_Tree_looks T S.ob fun dx hp => ?_⟩⟩
        obtain ⟨S1, k1⟩ := S.looked (dx := dx) (looks' := looks + 1)
        obtain ⟨qi, ei, ri⟩ := oka i rfl
        obtain ⟨qj, ej, rj⟩ := okb j rfl
        obtain ⟨hv, eh, ph⟩ := S1.heads
        obtain ⟨vi, gi, ai⟩ := P2.get' ph ei
        obtain ⟨vj, gj, aj⟩ := P2.get' ph ej
        refine ⟨_, rfl, g_Tree_order T S1.ob ⟨_, rfl, g_Tree_heads T S1.ob ⟨_, rfl, ixL eh rfl gi ⟨_, rfl, g_Tree_heads T S1.ob ⟨_, rfl, ixL eh rfl gj ?_⟩⟩⟩⟩⟩
        refine ⟨o, qi, qj, ⟨lo, rfl, S1.ord⟩, ai, aj, cmp_of hcol ri rj, _, rfl, ?_⟩
        have e1 : hdV hs i = qi := by unfold hdV hd; rw [List.getD_eq_getElem?_getD, ei]; rfl
        have e2 : hdV hs j = qj := by unfold hdV hd; rw [List.getD_eq_getElem?_getD, ej]; rfl
        rw [pick_ss, e1, e2] at k
        cases hbf : before o qi qj with
        | true => exact ⟨_, rfl, k _ _ (by rw [hbf]; rfl) S1 k1⟩
        | false => exact ⟨_, rfl, k _ _ (by rw [hbf]; rfl) S1 k1⟩
abbrev N_Tree_first : List Str := ["self"]
abbrev P_Tree_first : List Str := ["self"]
def sp_Tree_first (K : PySem.W.Frag) : Sp := fun vs H Q E => match vs with
  | [s] => ∃ p lo lh lb o hs bs many looks, s = .ref p ∧ TreeS K H p lo lh lb o hs bs many looks ∧ bs.length = 2 * many ∧ 1 ≤ many ∧ ∀ v, NatAt H v (bst bs 1) → Q v H
  | _ => False
def t_Tree_first (K : PySem.W.Frag) (E : XK) : TS := (tRet (tIf (tTest (tOpC xGt (tFl K (tVar 0) "many") (.int 1))) (tOpC (rIxL K) (tFl K (tVar 0) "best") (.int 1)) (tOpC (rIxL K) (tFl K (tVar 0) "best") (.int (-1)))))
theorem pure_Tree_first {K : PySem.W.Frag} (T : TxtTree K) : ∀ vs H Q E, sp_Tree_first K vs H Q E → t_Tree_first K E { nx := fun _ H' => Q .non H', rt := Q } (start N_Tree_first vs) H := by
  intro vs H Q E h
  match vs, h with
  | [s], h =>
    obtain ⟨p, lo, lh, lb, o, hs, bs, many, looks, rfl, S, hl, h1, k⟩ := h
    obtain ⟨bv, eb, pb⟩ := S.best
    have lb_ := pb.length
    have hx : bs[1]? = some (bst bs 1) := by
      unfold bst
      rw [List.getD_eq_getElem?_getD, List.getElem?_eq_getElem (by omega)]
      rfl
    obtain ⟨v, hv, av⟩ := P2.get' pb hx
    refine ⟨_, rfl, g_Tree_many T S.ob ⟨_, _, rfl, rfl, _, rfl, ?_⟩⟩
    by_cases hm : (1 : Int) < (many : Int)
    · rw [decide_eq_true hm]
      exact ⟨_, rfl, g_Tree_best T S.ob (ixL eb (j := 1) rfl hv (k v av))⟩
    · rw [decide_eq_false hm]
      refine ⟨_, rfl, g_Tree_best T S.ob ?_⟩
      match bv, lb_, hv with
      | [v0, v1], _, hv =>
        have e : v1 = v := by simpa using hv
        subst e
        exact ixLast (xs := [v0]) eb (k v1 av)
      | [], lb_, _ => simp at lb_; omega
      | [_], lb_, _ => simp at lb_; omega
      | _ :: _ :: _ :: _, lb_, _ => simp at lb_; omega
abbrev N_Tree_turn : List Str := ["self", "source", "head", "knot"]
abbrev P_Tree_turn : List Str := ["self", "source", "head"]
def sp_Tree_turn (K : PySem.W.Frag) : Sp := fun vs H Q E => match vs with
  | [s, iv, hv] => ∃ (p lo lh lb : Addr) (o : Ord) (hs : Hds) (bs : List (Option Nat)) (e : Nat) (looks : Int) (ks : List Str) (i : Nat) (h : Option Pr), s = .ref p ∧ iv = .int ((i : Nat) : Int) ∧ OptAt H hv h ∧ TreeS K H p lo lh lb o hs bs (2 ^ e) looks ∧ TreeOk o hs bs (2 ^ e) (fun _ => False) ∧ (∀ t ∈ o, t.1 < ks.length) ∧
    (∀ s q, hd hs s = some q → isRow ks q.2 = true) ∧ (∀ q, h = some q → isRow ks q.2 = true) ∧ i < hs.length ∧ hs.length ≤ 2 ^ e ∧
    ∀ bs' looks' H', TreeS K H' p lo lh lb o (hs.set i h) bs' (2 ^ e) looks' → TreeOk o (hs.set i h) bs' (2 ^ e) (fun _ => False) → looks ≤ looks' → looks' ≤ looks + (e : Int) → But [p, lh, lb] H H' → Q .non H'
  | _ => False
def t_Tree_turn (K : PySem.W.Frag) (E : XK) : TS := (tSeq (tAsg (tVar 2) (gSub (tFl K (tVar 0) "heads") (tVar 1) rSetL))
  (tSeq (tAsg (tOp xAdd (tFl K (tVar 0) "many") (tVar 1)) (gName 3))
   (tSeq (tAsg (tIf (tTest (tOpC rNotN (tVar 2) .non)) (tVar 1) (tC .non)) (gSub (tFl K (tVar 0) "best") (tVar 3) rSetL))
    (tWhile (tTest (tOpC xGt (tVar 3) (.int 1))) 
       (tSeq (tAsg (tOpC xDiv (tVar 3) (.int 2)) (gName 3))
       (tAsg (tMeth (He.ga K "Tree") "lesser" (sp_Tree_lesser K) [] E (tVar 0) (tCons (tOp (rIxL K) (tFl K (tVar 0) "best") (tOpD xMul (.int 2) (tVar 3))) (tCons (tOp (rIxL K) (tFl K (tVar 0) "best") (tOpC xAdd (tOpD xMul (.int 2) (tVar 3)) (.int 1))) tNil))) (gSub (tFl K (tVar 0) "best") (tVar 3) rSetL)))))))
theorem pure_Tree_turn {K : PySem.W.Frag} (T : TxtTree K) : ∀ vs H Q E, sp_Tree_turn K vs H Q E → t_Tree_turn K E { nx := fun _ H' => Q .non H', rt := Q } (start N_Tree_turn vs) H := by
  intro vs H Q E h
  match vs, h with
  | [s, iv, hv], h =>
    obtain ⟨p, lo, lh, lb, o, hs, bs, e, looks, ks, i, h, rfl, rfl, ah, S, TO, hcol, hok, hrow, hi, hle, k⟩ := h
    obtain ⟨xv, ex, px⟩ := S.heads
    have lx := px.length
    refine ⟨_, rfl, _, rfl, g_Tree_heads T S.ob ⟨_, rfl, _, _, _, i, rfl, rfl, ex, ixN_nat (by omega), ?_⟩⟩
    obtain ⟨S1, k1⟩ := S.headed (vs := xv.set i hv) (hs' := hs.set i h) (P2.set ah i px)
    have t1 := S.tup (k1.wide fun x hx => by rw [List.mem_singleton] at hx; subst hx; simp)
    have ah1 := OptAt.st _ _ _ _ t1 ah
    have b1 : But [p, lh, lb] H (upd H lh (.lst (xv.set i hv))) := k1.wide fun x hx => by rw [List.mem_singleton] at hx; subst hx; simp
    generalize upd H lh (.lst (xv.set i hv)) = H1 at S1 k1 t1 ah1 b1 ⊢
    refine ⟨_, rfl, g_Tree_many T S1.ob ⟨_, rfl, _, _, rfl, rfl, ?_⟩⟩
    obtain ⟨bv, eb, pb⟩ := S1.best
    have lb_ := pb.length
    have bl := TO.len
    have TL := tree_leaf TO hi (by omega : i < 2 ^ e) h
    have hok' : ∀ s q, hd (hs.set i h) s = some q → isRow ks q.2 = true := fun s q hq => by
      unfold hd at hq
      rw [getD_set h hi] at hq
      split at hq
      · exact hrow q hq
      · exact hok s q hq
    have ec : (((2 ^ e : Nat) : Int) + ((i : Nat) : Int)) = ((2 ^ e + i : Nat) : Int) := by omega
    have go : ∀ v : V, NatAt H1 v (if h.isSome then some i else none) → ∀ σ : L2.St, σ = [some (.ref p), some (.int (i : Int)), some hv, some (.int ((2 ^ e + i : Nat) : Int))] → (gSub (tFl K (tVar 0) "best") (tVar 3) rSetL) v σ H1
        fun σ2 H2 => (tWhile (tTest (tOpC xGt (tVar 3) (.int 1))) (tSeq (tAsg (tOpC xDiv (tVar 3) (.int 2)) (gName 3)) (tAsg (tMeth (He.ga K "Tree") "lesser" (sp_Tree_lesser K) [] E (tVar 0) (tCons (tOp (rIxL K) (tFl K (tVar 0) "best") (tOpD xMul (.int 2) (tVar 3))) (tCons (tOp (rIxL K) (tFl K (tVar 0) "best") (tOpC xAdd (tOpD xMul (.int 2) (tVar 3)) (.int 1))) tNil))) (gSub (tFl K (tVar 0) "best") (tVar 3) rSetL)))) { nx := fun _ H' => Q .non H', rt := Q } σ2 H2 := fun v av σ es => by
      subst es
      refine ⟨_, rfl, g_Tree_best T S1.ob ⟨_, rfl, _, _, _, 2 ^ e + i, rfl, rfl, eb, ixN_nat (by omega), ?_⟩⟩
      obtain ⟨S2, k2⟩ := S1.bested (vs := bv.set (2 ^ e + i) v) (bs' := bs.set (2 ^ e + i) (if h.isSome then some i else none)) (P2.set av _ pb)
      have b2 : But [p, lh, lb] H _ := b1.trans (k2.wide fun x hx => by rw [List.mem_singleton] at hx; subst hx; simp)
      refine ⟨fun m σ H' => ∃ (n f : Nat) (bs' : List (Option Nat)) (looks' : Int), m = n ∧ σ = [some (.ref p), some (.int (i : Int)), some hv, some (.int (n : Int))] ∧ TreeS K H' p lo lh lb o (hs.set i h) bs' (2 ^ e) looks' ∧ TreeOk o (hs.set i h) bs' (2 ^ e) (Above n) ∧ 1 ≤ n ∧ n < 2 ^ (f + 1) ∧ f ≤ e ∧ looks ≤ looks' ∧ looks' + (f : Int) ≤ looks + (e : Int) ∧ But [p, lh, lb] H H',
        ⟨_, 2 ^ e + i, e, _, looks, rfl, rfl, S2, TL, by have := Nat.one_le_two_pow (n := e); omega, by rw [Nat.pow_succ]; omega, Nat.le_refl _, Int.le_refl _, Int.le_refl _, b2⟩, ?_⟩
      rintro n σ H3 ⟨_, f, bs3, looks3, rfl, rfl, S3, T3, n1, nf, fe, q1, q2, b3⟩
      refine ⟨_, rfl, _, _, rfl, rfl, _, rfl, ?_⟩
      by_cases hn : (1 : Int) < (n : Int)
      · rw [decide_eq_true hn]
        have hn2 : 1 ≤ n / 2 := by omega
        have f1 : 1 ≤ f := by
          cases f with
          | zero => simp at nf; omega
          | succ f => omega
        have hlt : n / 2 < 2 ^ e := by
          have : n / 2 < 2 ^ f := by rw [Nat.pow_succ] at nf; omega
          exact Nat.lt_of_lt_of_le this (Nat.pow_le_pow_right (by omega) fe)
        obtain ⟨bv3, eb3, pb3⟩ := S3.best
        have lb3 := pb3.length
        have bl3 := T3.len
        have g : ∀ j, j < bs3.length → bs3[j]? = some (bst bs3 j) := fun j hj => by
          unfold bst
          rw [List.getD_eq_getElem?_getD, List.getElem?_eq_getElem hj]
          rfl
        obtain ⟨v1, gv1, av1⟩ := P2.get' pb3 (g (2 * (n / 2)) (by omega))
        obtain ⟨v2, gv2, av2⟩ := P2.get' pb3 (g (2 * (n / 2) + 1) (by omega))
        have e1 : (2 * ((n : Int) / 2)) = ((2 * (n / 2) : Nat) : Int) := by omega
        have e2 : (2 * ((n : Int) / 2) + 1) = ((2 * (n / 2) + 1 : Nat) : Int) := by omega
        obtain ⟨dx, hob⟩ := S3.ob
        have sm : ∀ j, j = 2 * (n / 2) ∨ j = 2 * (n / 2) + 1 → HdOk ks (hs.set i h) (bst bs3 j) := fun j hj => HdOk.of hok' fun s hs_ => (tree_some' T3 above_up _ j rfl (by omega) (by omega) (above_kids (by omega) (by omega)) s hs_).1
        refine ⟨fun σ H' => ∃ (n' f' : Nat) (bs' : List (Option Nat)) (looks' : Int), n' < n ∧ σ = [some (.ref p), some (.int (i : Int)), some hv, some (.int (n' : Int))] ∧ TreeS K H' p lo lh lb o (hs.set i h) bs' (2 ^ e) looks' ∧ TreeOk o (hs.set i h) bs' (2 ^ e) (Above n') ∧ 1 ≤ n' ∧ n' < 2 ^ (f' + 1) ∧ f' ≤ e ∧ looks ≤ looks' ∧ looks' + (f' : Int) ≤ looks + (e : Int) ∧ But [p, lh, lb] H H', ?_, ?_⟩
        · rintro σ H' ⟨n', f', bs', looks', a1, a2⟩
          exact ⟨n', a1, n', f', bs', looks', rfl, a2⟩
        · refine ⟨_, rfl, _, _, rfl, rfl, div_ok (by decide) (by decide), ?_⟩
          refine ⟨_, rfl, p, dx, _, rfl, hob, no_Tree_lesser, _, rfl, g_Tree_best T S3.ob ⟨_, rfl, _, _, rfl, rfl, .inl ⟨by decide, by decide⟩, ixL eb3 e1 gv1 ⟨_, rfl, g_Tree_best T S3.ob ⟨_, rfl, _, _, rfl, rfl, .inl ⟨by decide, by decide⟩, _, _, rfl, rfl, ixL eb3 e2 gv2 ?_⟩⟩⟩⟩
          refine ⟨p, lo, lh, lb, o, _, bs3, 2 ^ e, looks3, ks, _, _, rfl, av1, av2, S3, hcol, sm _ (.inl rfl), sm _ (.inr rfl), fun v H4 av S4 k4 => ?_⟩
          obtain ⟨bv4, eb4, pb4⟩ := S4.best
          have lb4 := pb4.length
          refine ⟨_, rfl, g_Tree_best T S4.ob ⟨_, rfl, _, _, _, n / 2, rfl, rfl, eb4, ?_, ?_⟩⟩
          · have : ((n : Int) / 2) = ((n / 2 : Nat) : Int) := by omega
            rw [this]
            exact ixN_nat (by omega)
          obtain ⟨S5, k5⟩ := S4.bested (vs := bv4.set (n / 2) v) (bs' := bs3.set (n / 2) (pick o (hs.set i h) (bst bs3 (2 * (n / 2))) (bst bs3 (2 * (n / 2) + 1)))) (P2.set av _ pb4)
          have lkb : 0 ≤ lk (bst bs3 (2 * (n / 2))) (bst bs3 (2 * (n / 2) + 1)) ∧ lk (bst bs3 (2 * (n / 2))) (bst bs3 (2 * (n / 2) + 1)) ≤ 1 := by
            unfold lk
            split <;> decide
          have pf : 2 ^ (f - 1 + 1) = 2 ^ f := by rw [Nat.sub_add_cancel f1]
          refine ⟨n / 2, f - 1, _, _, by omega, by congr 1, S5, tree_knot T3 hn2 hlt, hn2, by rw [pf]; rw [Nat.pow_succ] at nf; omega, by omega, by omega, by omega, ?_⟩
          exact (b3.trans (k4.wide fun x hx => by rw [List.mem_singleton] at hx; subst hx; simp)).trans (k5.wide fun x hx => by rw [List.mem_singleton] at hx; subst hx; simp)
      · rw [decide_eq_false hn]
        have en : n = 1 := by omega
        subst en
        exact k bs3 looks3 H3 S3 (T3.imp fun j hj => (above_one hj)) q1 (by omega) b3
    refine ⟨_, rfl, rfl, _, rfl, ?_⟩
    cases h with
    | none =>
      have e0 : hv = .non := ah
      subst e0
      exact go .non rfl _ (by rw [← ec]; rfl)
    | some q =>
      rw [opt_some ah]
      exact ⟨_, rfl, go (.int (i : Int)) rfl _ (by rw [← ec]; rfl)⟩
abbrev N_Tree___init__ : List Str := ["self", "order", "heads", "source", "knot"]
abbrev P_Tree___init__ : List Str := ["self", "order", "heads"]
def cnt (bs : List (Option Nat)) (a : Nat) : Nat := ((bs.drop a).filter fun z => z.isSome).length
def sp_Tree___init__ (K : PySem.W.Frag) : Sp := fun vs H Q E => match vs with
  | [s, ov, hv] => ∃ p dx lo o lhs hs ks, s = .ref p ∧ ov = .ref lo ∧ hv = .ref lhs ∧ H p = some (.ins (He.ga K "Tree") dx []) ∧ Lst TurnAt H lo o ∧ Lst OptAt H lhs hs ∧ hs.length ≤ 1000 ∧ (∀ t ∈ o, t.1 < ks.length) ∧ (∀ s q, hd hs s = some q → isRow ks q.2 = true) ∧
    ∀ (lh lb : Addr) (bs : List (Option Nat)) (e : Nat) (looks : Int) (H' : Hp), TreeS K H' p lo lh lb o hs bs (2 ^ e) looks → TreeOk o hs bs (2 ^ e) (fun _ => False) → hs.length ≤ 2 ^ e → (e = 0 ∨ 2 ^ e < 2 * hs.length) → looks = (cnt bs (2 ^ e) : Int) - (if (bst bs 1).isSome then 1 else 0) → H lh = none → H lb = none → But [p] H H' → Q .non H'
  | _ => False
def t_Tree___init__ (K : PySem.W.Frag) (E : XK) : TS := (tSeq (sFl K (tVar 0) (tVar 1) "order")
  (tSeq (sFl K (tVar 0) (tCB1 (xList K) (tVar 2)) "heads")
   (tSeq (sFl K (tVar 0) (tC (.int 1)) "many")
    (tSeq (sFl K (tVar 0) (tC (.int 0)) "looks")
     (tSeq (tWhile (tTest (tOp xLt (tFl K (tVar 0) "many") (tCB1 (xLen K) (tFl K (tVar 0) "heads")))) (sFl K (tVar 0) (tOpD xMul (.int 2) (tFl K (tVar 0) "many")) "many"))
      (tSeq (sFl K (tVar 0) (tOp rRep (tLst (tConsC .non tNil)) (tFl K (tVar 0) "many")) "best")
       (tSeq (tFor (iRng1 (tCons (tFl K (tVar 0) "many") tNil)) (gName 3) (tDrop (tBM K "list" rAppend (tFl K (tVar 0) "best") (tCons (tIf (tAnd (tTest (tOp xLt (tVar 3) (tCB1 (xLen K) (tFl K (tVar 0) "heads")))) (tTest (tOpC rNotN (tOp (rIxL K) (tFl K (tVar 0) "heads") (tVar 3)) .non))) (tVar 3) (tC .non)) tNil))))
        (tFor (iRng3 (tCons (tOpC xSub (tFl K (tVar 0) "many") (.int 1)) (tConsC (.int 0) (tConsC (.int (-1)) tNil)))) (gName 4) (tAsg (tMeth (He.ga K "Tree") "lesser" (sp_Tree_lesser K) [] E (tVar 0) (tCons (tOp (rIxL K) (tFl K (tVar 0) "best") (tOpD xMul (.int 2) (tVar 4))) (tCons (tOp (rIxL K) (tFl K (tVar 0) "best") (tOpC xAdd (tOpD xMul (.int 2) (tVar 4)) (.int 1))) tNil))) (gSub (tFl K (tVar 0) "best") (tVar 4) rSetL))))))))))
theorem cnt_step {bs : List (Option Nat)} {a : Nat} (h : a < bs.length) : cnt bs a = (if (bst bs a).isSome then 1 else 0) + cnt bs (a + 1) := by
  unfold cnt bst
  rw [List.drop_eq_getElem_cons h, List.getD_eq_getElem?_getD, List.getElem?_eq_getElem h, List.filter_cons]
  show _ = (if bs[a].isSome = true then 1 else 0) + _
  cases bs[a].isSome
  · simp
  · simp [Nat.add_comm]
theorem cnt_set {bs : List (Option Nat)} {a k : Nat} {v : Option Nat} (h : k < a) : cnt (bs.set k v) a = cnt bs a := by
  unfold cnt
  rw [List.drop_set_of_lt h]
theorem rep_none : ∀ n : Nat, (List.replicate n [V.non]).flatten = List.replicate n V.non
  | 0 => rfl
  | n + 1 => by rw [List.replicate_succ, List.flatten_cons, rep_none n, List.replicate_succ]; rfl
theorem rep_nat {H : Hp} : ∀ n : Nat, Paired (NatAt H) (List.replicate n V.non) (List.replicate n none)
  | 0 => .nil
  | n + 1 => by rw [List.replicate_succ, List.replicate_succ]; exact .cons rfl (rep_nat n)
theorem pick_some {o : Ord} {hs : Hds} (a b : Option Nat) : (if (pick o hs a b).isSome then (1 : Int) else 0) + lk a b = (if a.isSome then (1 : Int) else 0) + (if b.isSome then (1 : Int) else 0) := by
  cases a with
  | none => cases b <;> simp [pick, lk]
  | some i =>
    cases b with
    | none => simp [pick, lk]
    | some j =>
      rw [pick_ss]
      split <;> simp [lk]
theorem pure_Tree___init__ {K : PySem.W.Frag} (T : TxtTree K) : ∀ vs H Q E, sp_Tree___init__ K vs H Q E → t_Tree___init__ K E { nx := fun _ H' => Q .non H', rt := Q } (start N_Tree___init__ vs) H := by
  intro vs H Q E h
  match vs, h with
  | [s, ov, hv], h =>
    obtain ⟨p, dx, lo, o, lhs, hs, ks, rfl, rfl, rfl, hp, Lo, Lh, hlen, hcol, hok, k⟩ := h
    obtain ⟨xv, ex, px⟩ := Lh
    have lx := px.length
    have plo : lo ≠ p := by
      obtain ⟨tv, e, _⟩ := Lo
      exact ne_of e hp (by intro z; cases z)
    have plh : lhs ≠ p := ne_of ex hp (by intro z; cases z)
    refine ⟨_, rfl, _, rfl, n_Tree_order T hp ?_⟩
    have k1 : But [p] H (upd H p (.ins (He.ga K "Tree") dx (i_Tree_1 (.ref lo)))) := (But.refl _ H).put (by simp)
    have hp1 : upd H p (.ins (He.ga K "Tree") dx (i_Tree_1 (.ref lo))) p = some _ := upd_same
    have ex1 := up (u := .ins (He.ga K "Tree") dx (i_Tree_1 (.ref lo))) ex plh
    generalize upd H p (.ins (He.ga K "Tree") dx (i_Tree_1 (.ref lo))) = H1 at k1 hp1 ex1 ⊢
    refine ⟨_, rfl, _, _, rfl, .inl (SqL.of ex1), fun lh hlh => ⟨_, rfl, ?_⟩⟩
    have nplh : p ≠ lh := ne_of_none hp1 hlh
    have hlh0 : H lh = none := none_of_but k1 hlh (ne1 nplh.symm)
    have k2 : But [p] H (upd H1 lh (.lst xv)) := k1.new hlh
    have hp2 := un (u := .lst xv) hp1 hlh
    have eh2 : upd H1 lh (.lst xv) lh = some (.lst xv) := upd_same
    generalize upd H1 lh (.lst xv) = H2 at k2 hp2 eh2 ⊢
    refine n_Tree_heads T hp2 ?_
    refine ⟨_, rfl, n_Tree_many T upd_same ⟨_, rfl, n_Tree_looks T upd_same ?_⟩⟩
    have k3 : ∀ u1 u2 u3 : HO, But [p] H (upd (upd (upd H2 p u1) p u2) p u3) := fun u1 u2 u3 => ((k2.put (by simp)).put (by simp)).put (by simp)
    have eh3 : ∀ u1 u2 u3 : HO, upd (upd (upd H2 p u1) p u2) p u3 lh = some (.lst xv) := fun u1 u2 u3 => up (up (up eh2 nplh.symm) nplh.symm) nplh.symm
    refine ⟨fun m σ H' => ∃ (e : Nat), m = 4000 - 2 ^ e ∧ σ = [some (.ref p), some (.ref lo), some (.ref lhs), none, none] ∧ H' p = some (.ins (He.ga K "Tree") dx (i_Tree_4 (.ref lo) (.ref lh) (.int ((2 ^ e : Nat) : Int)) (.int 0))) ∧ H' lh = some (.lst xv) ∧ But [p] H H' ∧ (e = 0 ∨ 2 ^ e < 2 * hs.length),
      ⟨_, 0, rfl, rfl, upd_same, eh3 _ _ _, k3 _ _ _, .inl rfl⟩, ?_⟩
    clear k3 eh3 k2 hp2 eh2
    rintro m σ H3 ⟨e, rfl, rfl, hp3, eh3, k3, he⟩
    refine ⟨_, rfl, gi_Tree_4_many T hp3 ⟨_, rfl, gi_Tree_4_heads T hp3 (lenL eh3 rfl ⟨_, _, rfl, rfl, _, rfl, ?_⟩)⟩⟩
    have e1000 : 2 ^ e ≤ 2000 := by
      rcases he with rfl | he
      · decide
      · omega
    by_cases hlt : (((2 ^ e : Nat) : Int) < (xv.length : Int))
    · rw [decide_eq_true hlt]
      refine ⟨fun σ H' => ∃ (e' : Nat), 4000 - 2 ^ e' < 4000 - 2 ^ e ∧ σ = [some (.ref p), some (.ref lo), some (.ref lhs), none, none] ∧ H' p = some (.ins (He.ga K "Tree") dx (i_Tree_4 (.ref lo) (.ref lh) (.int ((2 ^ e' : Nat) : Int)) (.int 0))) ∧ H' lh = some (.lst xv) ∧ But [p] H H' ∧ (e' = 0 ∨ 2 ^ e' < 2 * hs.length), ?_, ?_⟩
      · rintro σ H' ⟨e', a1, a2⟩
        exact ⟨_, a1, e', rfl, a2⟩
      · refine ⟨_, rfl, gi_Tree_4_many T hp3 ⟨_, _, rfl, rfl, .inl ⟨by decide, by decide⟩, _, rfl, si_Tree_4_many T hp3 ?_⟩⟩
        have e2 : (2 * ((2 ^ e : Nat) : Int)) = ((2 ^ (e + 1) : Nat) : Int) := by rw [Nat.pow_succ]; omega
        refine ⟨e + 1, by rw [Nat.pow_succ]; have := Nat.one_le_two_pow (n := e); omega, rfl, by rw [← e2]; exact upd_same, up eh3 nplh.symm, k3.put (by simp), .inr (by rw [Nat.pow_succ]; omega)⟩
    rw [decide_eq_false hlt]
    have hle : hs.length ≤ 2 ^ e := by omega
    have e1 : 1 ≤ 2 ^ e := Nat.one_le_two_pow
    -- best
    refine ⟨by show 1 ≤ sizeLine; decide, fun l0 hl0 => ⟨_, rfl, gi_Tree_4_many T (un hp3 hl0) ⟨_, _, _, rfl, rfl, upd_same, by omega, by omega, by show 1 * _ ≤ sizeLine; exact szle (by omega), fun lb hlb => ⟨_, rfl, ?_⟩⟩⟩⟩
    have s4 : Same H3 (upd (upd H3 l0 (.lst [.non])) lb (.lst (List.replicate (((2 ^ e : Nat) : Int)).toNat [V.non]).flatten)) := (Rs.Same.new hl0).trans (Rs.Same.new hlb)
    have eb4 : upd (upd H3 l0 (.lst [.non])) lb (.lst (List.replicate (((2 ^ e : Nat) : Int)).toNat [V.non]).flatten) lb = some (.lst (List.replicate (2 ^ e) V.non)) := by
      rw [upd_same, rep_none]
      rfl
    have hlb3 : H3 lb = none := (Rs.Same.new hl0).free hlb
    generalize upd (upd H3 l0 (.lst [.non])) lb (.lst (List.replicate (((2 ^ e : Nat) : Int)).toNat [V.non]).flatten) = H4 at s4 eb4 ⊢
    have nplb : p ≠ lb := ne_of_none hp3 hlb3
    have nhb : lh ≠ lb := ne_of_none eh3 hlb3
    have hlb0 : H lb = none := none_of_but k3 hlb3 (ne1 nplb.symm)
    have nob : lo ≠ lb := by
      obtain ⟨tv, q, _⟩ := Lo
      exact ne_of_none q hlb0
    have noh : lo ≠ lh := by
      obtain ⟨tv, q, _⟩ := Lo
      exact ne_of_none q hlh0
    refine n_Tree_best T (s4 _ _ hp3) ?_
    have k5 : But [p] H (upd H4 p (.ins (He.ga K "Tree") dx (i_Tree_5 (.ref lo) (.ref lh) (.int ((2 ^ e : Nat) : Int)) (.int 0) (.ref lb)))) := (k3.trans (But.same s4)).put (by simp)
    have eb5 := up (u := .ins (He.ga K "Tree") dx (i_Tree_5 (.ref lo) (.ref lh) (.int ((2 ^ e : Nat) : Int)) (.int 0) (.ref lb))) eb4 nplb.symm
    have eh5 := up (u := .ins (He.ga K "Tree") dx (i_Tree_5 (.ref lo) (.ref lh) (.int ((2 ^ e : Nat) : Int)) (.int 0) (.ref lb))) (s4 _ _ eh3) nplh.symm
    have hp5 : upd H4 p (.ins (He.ga K "Tree") dx (i_Tree_5 (.ref lo) (.ref lh) (.int ((2 ^ e : Nat) : Int)) (.int 0) (.ref lb))) p = some (.ins (He.ga K "Tree") dx (f_Tree (.ref lo) (.ref lh) (.int ((2 ^ e : Nat) : Int)) (.int 0) (.ref lb))) := upd_same
    generalize upd H4 p (.ins (He.ga K "Tree") dx (i_Tree_5 (.ref lo) (.ref lh) (.int ((2 ^ e : Nat) : Int)) (.int 0) (.ref lb))) = H5 at k5 eb5 eh5 hp5 ⊢
    have t5 : TupLe H H5 := k5.tupOf fun b hb => by rw [List.mem_singleton] at hb; subst hb; exact nt_ins hp
    have S5 : TreeS K H5 p lo lh lb o hs (List.replicate (2 ^ e) none) (2 ^ e) 0 := ⟨⟨dx, hp5⟩, Lo.keep TurnAt.st t5 fun u q => k5 _ _ q (ne1 plo), ⟨xv, eh5, Paired.tl OptAt.st t5 px⟩, ⟨_, eb5, rep_nat _⟩, nhb, noh, nob⟩
    clear eb5 eh5 hp5 s4 eb4 k3 eh3 hp3
    refine ⟨_, rfl, g_Tree_many T S5.ob ⟨_, rfl, by omega, by omega, ?_⟩⟩
    -- the leaves
    refine for_range (lo := 0) (n := (((2 ^ e : Nat) : Int)).toNat) (fun j σ H' => ∃ x3, σ = [some (.ref p), some (.ref lo), some (.ref lhs), x3, none] ∧ TreeS K H' p lo lh lb o hs (List.replicate (2 ^ e) none ++ (List.range j).map (leafOf hs)) (2 ^ e) 0 ∧ But [p, lb] H5 H')
      ⟨none, rfl, by simpa using S5, But.refl _ _⟩ ?_ ?_
    · rintro j σ H6 hj ⟨x3, rfl, S6, k6⟩
      have hj2 : j < 2 ^ e := by omega
      obtain ⟨hv6, eh6, ph6⟩ := S6.heads
      have lh6 := ph6.length
      have z : (0 + (j : Int)) = ((j : Nat) : Int) := by omega
      obtain ⟨bv, eb, pb⟩ := S6.best
      have lbl := pb.length
      rw [List.length_append, List.length_replicate, List.length_map, List.length_range] at lbl
      have put : ∀ v : V, NatAt H6 v (leafOf hs j) → rAppend (.ref lb) [v] H6 fun _ H1 => ∃ x3, ([some (V.ref p), some (.ref lo), some (.ref lhs), some (.int (0 + (j : Int))), none] : L2.St) = [some (.ref p), some (.ref lo), some (.ref lhs), x3, none] ∧ TreeS K H1 p lo lh lb o hs (List.replicate (2 ^ e) none ++ (List.range (j + 1)).map (leafOf hs)) (2 ^ e) 0 ∧ But [p, lb] H5 H1 := fun v av => by
        refine ⟨_, _, _, rfl, rfl, eb, szlt (by omega), _, rfl, ?_⟩
        obtain ⟨S7, k7⟩ := S6.bested (vs := bv ++ [v]) (bs' := (List.replicate (2 ^ e) none ++ (List.range j).map (leafOf hs)) ++ [leafOf hs j]) (P2.app pb (P2.one av))
        refine ⟨?_, k6.trans (k7.wide fun x hx => by rw [List.mem_singleton] at hx; subst hx; simp)⟩
        rw [List.range_succ, List.map_append, ← List.append_assoc]
        exact S7
      refine ⟨_, rfl, g_Tree_best T S6.ob ⟨.inl ⟨rfl, _, SqL.of eb⟩, _, rfl, _, rfl, g_Tree_heads T S6.ob (lenL eh6 rfl ⟨_, _, rfl, rfl, _, rfl, ?_⟩)⟩⟩
      by_cases hlt : (0 + (j : Int)) < (hv6.length : Int)
      · rw [decide_eq_true hlt]
        have hjh : j < hs.length := by omega
        obtain ⟨v, gv, av⟩ := P2.get' ph6 (List.getElem?_eq_getElem hjh)
        refine ⟨_, rfl, g_Tree_heads T S6.ob ⟨_, rfl, ixL eh6 z gv ⟨rfl, _, rfl, ?_⟩⟩⟩
        have eh : hd hs j = hs[j] := by
          unfold hd
          rw [List.getD_eq_getElem?_getD, List.getElem?_eq_getElem hjh]
          rfl
        cases hq : hs[j] with
        | none =>
          rw [hq] at av eh
          have ev : v = .non := av
          subst ev
          exact put .non (by unfold leafOf; rw [eh]; rfl)
        | some q =>
          rw [hq] at av eh
          rw [opt_some av]
          exact ⟨_, rfl, put (.int (0 + (j : Int))) (by unfold leafOf; rw [eh, z]; rfl)⟩
      · rw [decide_eq_false hlt]
        refine put .non ?_
        have eh : hd hs j = none := by
          unfold hd
          rw [List.getD_eq_getElem?_getD, List.getElem?_eq_none (by omega)]
          rfl
        unfold leafOf
        rw [eh]
        rfl
    rintro σ H6 ⟨x3, rfl, S6, k6⟩
    have en : (((2 ^ e : Nat) : Int)).toNat = 2 ^ e := by omega
    rw [en] at S6
    -- the knots
    have TO : TreeOk o hs (List.replicate (2 ^ e) none ++ (List.range (2 ^ e)).map (leafOf hs)) (2 ^ e) fun j => j ≤ 2 ^ e - 1 := by
      refine ⟨by rw [List.length_append, List.length_replicate, List.length_map, List.length_range]; omega, fun s hs_ => ?_, fun j j1 j2 nb => absurd (by omega) nb⟩
      unfold bst
      rw [List.getD_eq_getElem?_getD, List.getElem?_append_right (by rw [List.length_replicate]; omega), List.length_replicate, Nat.add_sub_cancel_left, List.getElem?_map, List.getElem?_range hs_]
      rfl
    refine ⟨_, rfl, g_Tree_many T S6.ob ⟨_, _, rfl, rfl, _, _, _, _, rfl, RgC.neg (by omega) (by omega) (by decide) (by decide), ?_⟩⟩
    have en2 : (((2 ^ e : Nat) : Int) - 1 - 0).toNat = 2 ^ e - 1 := by omega
    rw [en2]
    refine for_rangeC (fun j σ H' => ∃ x4 bs looks, σ = [some (.ref p), some (.ref lo), some (.ref lhs), x3, x4] ∧ TreeS K H' p lo lh lb o hs bs (2 ^ e) looks ∧ TreeOk o hs bs (2 ^ e) (fun i => i ≤ 2 ^ e - 1 - j) ∧ looks = (cnt bs (2 * (2 ^ e - j)) : Int) - cnt bs (2 ^ e - j) + cnt bs (2 ^ e) ∧ But [p, lb] H5 H')
      ⟨none, _, 0, rfl, S6, TO, ?_, k6⟩ ?_ ?_
    · have : cnt (List.replicate (2 ^ e) none ++ (List.range (2 ^ e)).map (leafOf hs)) (2 * (2 ^ e - 0)) = 0 := by
        unfold cnt
        rw [List.drop_of_length_le (by rw [List.length_append, List.length_replicate, List.length_map, List.length_range]; omega)]
        rfl
      rw [this, Nat.sub_zero]
      omega
    · rintro j σ H7 hj ⟨x4, bs, looks, rfl, S7, T7, hlk, k7⟩
      have ek : (((2 ^ e : Nat) : Int) - 1 + (j : Nat) * (-1)) = ((2 ^ e - 1 - j : Nat) : Int) := by omega
      rw [ek]
      generalize hkn : 2 ^ e - 1 - j = kn at T7 hj ⊢
      have hkn1 : 1 ≤ kn := by omega
      have hkn2 : kn < 2 ^ e := by omega
      obtain ⟨bv, eb, pb⟩ := S7.best
      have lbv := pb.length
      have bl := T7.len
      have g : ∀ j, j < bs.length → bs[j]? = some (bst bs j) := fun j hj => by
        unfold bst
        rw [List.getD_eq_getElem?_getD, List.getElem?_eq_getElem hj]
        rfl
      obtain ⟨v1, gv1, av1⟩ := P2.get' pb (g (2 * kn) (by omega))
      obtain ⟨v2, gv2, av2⟩ := P2.get' pb (g (2 * kn + 1) (by omega))
      have e1 : (2 * (kn : Int)) = ((2 * kn : Nat) : Int) := by omega
      have e2 : (2 * (kn : Int) + 1) = ((2 * kn + 1 : Nat) : Int) := by omega
      have sm : ∀ j, j = 2 * kn ∨ j = 2 * kn + 1 → HdOk ks hs (bst bs j) := fun j hj => HdOk.of hok fun s hs_ => (tree_some' T7 (fun a b _ h2 h3 => by omega) _ j rfl (by omega) (by omega) (by omega) s hs_).1
      obtain ⟨dx7, hob⟩ := S7.ob
      refine ⟨_, rfl, p, dx7, _, rfl, hob, no_Tree_lesser, _, rfl, g_Tree_best T S7.ob ⟨_, rfl, _, _, rfl, rfl, .inl ⟨by decide, by decide⟩, ixL eb e1 gv1 ⟨_, rfl, g_Tree_best T S7.ob ⟨_, rfl, _, _, rfl, rfl, .inl ⟨by decide, by decide⟩, _, _, rfl, rfl, ixL eb e2 gv2 ?_⟩⟩⟩⟩
      refine ⟨p, lo, lh, lb, o, hs, bs, 2 ^ e, looks, ks, _, _, rfl, av1, av2, S7, hcol, sm _ (.inl rfl), sm _ (.inr rfl), fun v H8 av S8 k8 => ?_⟩
      obtain ⟨bv8, eb8, pb8⟩ := S8.best
      have lb8 := pb8.length
      refine ⟨_, rfl, g_Tree_best T S8.ob ⟨_, rfl, _, _, _, kn, rfl, rfl, eb8, ixN_nat (by omega), ?_⟩⟩
      obtain ⟨S9, k9⟩ := S8.bested (vs := bv8.set kn v) (bs' := bs.set kn (pick o hs (bst bs (2 * kn)) (bst bs (2 * kn + 1)))) (P2.set av _ pb8)
      have T9 := tree_down T7 hkn1 hkn2
      refine ⟨_, _, _, rfl, S9, ?_, ?_, (k7.trans (k8.wide fun x hx => by rw [List.mem_singleton] at hx; subst hx; simp)).trans (k9.wide fun x hx => by rw [List.mem_singleton] at hx; subst hx; simp)⟩
      · have : 2 ^ e - 1 - (j + 1) = kn - 1 := by omega
        rw [this]
        exact T9
      · have a1 : 2 ^ e - (j + 1) = kn := by omega
        have a2 : 2 ^ e - j = kn + 1 := by omega
        rw [a1]
        rw [a2] at hlk
        have c1 := cnt_step (bs := bs.set kn (pick o hs (bst bs (2 * kn)) (bst bs (2 * kn + 1)))) (a := kn) (by rw [List.length_set]; omega)
        rw [bst_set (by omega), if_pos rfl, cnt_set (a := kn + 1) (by omega)] at c1
        have c2 := cnt_step (bs := bs) (a := 2 * kn) (by omega)
        have c3 := cnt_step (bs := bs) (a := 2 * kn + 1) (by omega)
        have c4 := pick_some (o := o) (hs := hs) (bst bs (2 * kn)) (bst bs (2 * kn + 1))
        have a3 : 2 * (kn + 1) = 2 * kn + 1 + 1 := by omega
        rw [a3] at hlk
        rw [cnt_set (by omega : kn < 2 * kn), cnt_set hkn2, c1]
        rw [hlk]
        generalize cnt bs (2 * kn + 1 + 1) = A at *
        generalize cnt bs (kn + 1) = B at *
        generalize cnt bs (2 ^ e) = C at *
        rw [c2, c3]
        generalize (bst bs (2 * kn)).isSome = b1 at *
        generalize (bst bs (2 * kn + 1)).isSome = b2 at *
        generalize lk (bst bs (2 * kn)) (bst bs (2 * kn + 1)) = l at *
        generalize (pick o hs (bst bs (2 * kn)) (bst bs (2 * kn + 1))).isSome = b3 at *
        cases b1 <;> cases b2 <;> cases b3 <;> simp only [Bool.false_eq_true, if_false, if_true] at c4 ⊢ <;> omega
    · rintro σ H7 ⟨x4, bs, looks, rfl, S7, T7, hlk, k7⟩
      have a2 : 2 ^ e - (2 ^ e - 1) = 1 := by omega
      rw [a2] at hlk
      have c1 := cnt_step (bs := bs) (a := 1) (by rw [T7.len]; omega)
      have k8 : But [p] H H7 := fun b u q nb => k7 b u (k5 b u q nb) (by
        simp only [List.mem_cons, List.not_mem_nil, or_false] at nb ⊢
        rintro (h | h)
        · exact nb h
        · rw [h, hlb0] at q; cases q)
      refine k lh lb bs e looks H7 S7 ⟨T7.len, T7.leaf, fun j j1 j2 _ => T7.knot j j1 j2 (by omega)⟩ hle he ?_ hlh0 hlb0 k8
      rw [hlk, c1]
      generalize (bst bs 1).isSome = b
      cases b <;> simp <;> omega
end Rs

namespace Rs
open PySem PySem.Spec PyProof.Rows L2
abbrev N_is_run : List Str := ["kinds", "order", "run", "number", "row", "k"]
abbrev P_is_run : List Str := ["kinds", "order", "run"]
def isRunB (ks : List Str) (o : Ord) (xs : List Pr) : Bool := (xs.all fun p => decide (0 ≤ p.1) && isRow ks p.2) && (List.range (xs.length - 1)).all fun i => before o (xs.getD i c0.2) (xs.getD (i + 1) c0.2)
def sp_is_run (K : PySem.W.Frag) : Sp := fun vs H Q E => match vs with
  | [kv, ov, rv] => ∃ ks o xs lo lr, KindsAt H kv ks ∧ ks.length ≤ 1000 ∧ ov = .ref lo ∧ Lst TurnAt H lo o ∧ (∀ t ∈ o, t.1 < ks.length) ∧ rv = .ref lr ∧ Lst PairAt H lr xs ∧ (∀ p ∈ xs, RowSz p.2) ∧ xs.length ≤ 1000 ∧ ∀ H', Same H H' → Q (.bl (isRunB ks o xs)) H'
  | _ => False
def t_is_run (K : PySem.W.Frag) (E : XK) : TS := (tSeq (tFor (iList K (tVar 2)) (gTup K 2 (gCons (gName 3) (gCons (gName 4) gNil))) 
    (tIfS (tOr (tTest (tOpC xLt (tVar 3) (.int 0))) (tNot (tB (tCall (sp_is_row K) [] E (tCons (tVar 0) (tCons (tVar 4) tNil)))))) (tRet (tC (.bl false))) tNext))
  (tRet (tOp (xEqE K) (tLc (iRng2 (tConsC (.int 1) (tCons (tCB1 (xLen K) (tVar 2)) tNil))) (gName 5) (tNot (tB (tCall (sp_is_before K) [] E0 (tCons (tVar 1) (tCons (tOp (rIxL K) (tVar 2) (tOpC xSub (tVar 5) (.int 1))) (tCons (tOp (rIxL K) (tVar 2) (tVar 5)) tNil)))))) (tVar 5) [5]) (tLst tNil))))
theorem pure_is_run {K : PySem.W.Frag} : ∀ vs H Q E, sp_is_run K vs H Q E → t_is_run K E { nx := fun _ H' => Q .non H', rt := Q } (start N_is_run vs) H := by
  intro vs H Q E h
  match vs, h with
  | [kv, ov, rv], h =>
    obtain ⟨ks, o, xs, lo, lr, hk, hkl, rfl, Lo, hcol, rfl, ⟨xv, ex, px⟩, hsz, hlen, k⟩ := h
    have lx := px.length
    refine ⟨_, rfl, lr, rfl, ⟨_, SqL.of ex⟩, ?_⟩
    refine for_list (K := K) (a := lr) (xs := xv) (fun j σ H' => ∃ x3 x4, σ = [some kv, some (.ref lo), some (.ref lr), x3, x4, none] ∧ Same H H' ∧ ∀ p ∈ xs.take j, 0 ≤ p.1 ∧ isRow ks p.2 = true) ⟨none, none, rfl, Same.refl H, by simp⟩ ?_ ?_ ?_
    · rintro j σ H' _ ⟨_, _, _, s, _⟩
      exact SqL.of (s _ _ ex)
    · rintro j v σ H' hj ⟨x3, x4, rfl, s, done⟩
      obtain ⟨q, hq, w, ⟨t, rfl, et⟩, hw⟩ := P2.get px hj
      have qm := List.mem_of_getElem? hq
      have st := TupLe.same s
      refine ⟨t, _, rfl, SqT.of (s _ _ et), rfl, _, _, rfl, _, _, rfl, rfl, ?_⟩
      have bad : isRunB ks o xs = false → ∀ H3, Same H H3 → Q (.bl false) H3 := fun e H3 s3 => by rw [← e]; exact k H3 s3
      refine ⟨_, rfl, _, _, rfl, rfl, _, rfl, ?_⟩
      by_cases h0 : q.1 < 0
      · rw [decide_eq_true h0]
        refine bad ?_ _ s
        unfold isRunB
        have : (xs.all fun p => decide (0 ≤ p.1) && isRow ks p.2) = false := by
          rw [List.all_eq_false]
          exact ⟨q, qm, by rw [decide_eq_false (by omega)]; simp⟩
        rw [this]
        rfl
      · rw [decide_eq_false h0]
        refine ⟨_, rfl, _, rfl, ks, q.2, hk.mono st, RowAt.st _ _ _ _ st hw, hsz q qm, hkl, fun H3 s3 => ⟨_, rfl, ?_⟩⟩
        cases hr : isRow ks q.2 with
        | false =>
          refine bad ?_ _ (s.trans s3)
          unfold isRunB
          have : (xs.all fun p => decide (0 ≤ p.1) && isRow ks p.2) = false := by
            rw [List.all_eq_false]
            exact ⟨q, qm, by rw [hr]; simp⟩
          rw [this]
          rfl
        | true =>
          refine ⟨_, _, rfl, s.trans s3, fun p hp => ?_⟩
          rw [List.take_succ, hq] at hp
          rcases List.mem_append.mp hp with z | z
          · exact done p z
          · have : p = q := by simpa using z
            subst this
            exact ⟨by omega, hr⟩
    · rintro σ H1 ⟨x3, x4, rfl, s1, done⟩
      rw [List.take_of_length_le (by omega)] at done
      have a1 : (xs.all fun p => decide (0 ≤ p.1) && isRow ks p.2) = true := by
        rw [List.all_eq_true]
        intro p hp
        rw [decide_eq_true (done p hp).1, (done p hp).2]
        rfl
      refine ⟨_, rfl, lenL (s1 _ _ ex) rfl ⟨_, _, rfl, ⟨by decide, by decide, by omega, by omega⟩, fun D hD => ?_⟩⟩
      have en : ((xv.length : Int) - 1).toNat = xs.length - 1 := by omega
      rw [en]
      refine lc_range (lo := 1) (n := xs.length - 1) (fun j H2 => H2 D = some (.lst (((List.range j).filter fun i => !before o (xs.getD i c0.2) (xs.getD (i + 1) c0.2)).map fun (i : Nat) => V.int (1 + (i : Int)))) ∧ Same H1 H2) ⟨upd_same, Rs.Same.new hD⟩ ?_ ?_
      · rintro j H2 hj ⟨hd, s2⟩
        have s := s1.trans s2
        have st := TupLe.same s
        obtain ⟨v1, g1, r1⟩ := P2.get' px (List.getElem?_eq_getElem (by omega : j < xs.length))
        obtain ⟨v2, g2, r2⟩ := P2.get' px (List.getElem?_eq_getElem (by omega : j + 1 < xs.length))
        have e1 : (1 + (j : Int)) - 1 = ((j : Nat) : Int) := by omega
        have e2 : (1 + (j : Int)) = ((j + 1 : Nat) : Int) := by omega
        have d1 : xs[j]'(by omega) = xs.getD j c0.2 := (getD_lt (by omega)).symm
        have d2 : xs[j + 1]'(by omega) = xs.getD (j + 1) c0.2 := (getD_lt (by omega)).symm
        rw [d1] at r1
        rw [d2] at r2
        refine ⟨rfl, _, rfl, _, rfl, _, rfl, _, _, rfl, rfl, ixL (s _ _ ex) e1 g1 ⟨_, rfl, _, rfl, ixL (s _ _ ex) e2 g2 ?_⟩⟩
        have m1 : xs.getD j c0.2 ∈ xs := getD_mem (by omega)
        have m2 : xs.getD (j + 1) c0.2 ∈ xs := getD_mem (by omega)
        refine ⟨o, _, _, ⟨lo, rfl, Lo.same TurnAt.st s⟩, PairAt.st _ _ _ _ st r1, PairAt.st _ _ _ _ st r2, cmp_of hcol (done _ m1).2 (done _ m2).2, _, rfl, ?_⟩
        have lf : ((List.range j).filter fun i => !before o (xs.getD i c0.2) (xs.getD (i + 1) c0.2)).length ≤ j := by
          have := List.length_filter_le (fun i => !before o (xs.getD i c0.2) (xs.getD (i + 1) c0.2)) (List.range j)
          rw [List.length_range] at this
          exact this
        cases hb : before o (xs.getD j c0.2) (xs.getD (j + 1) c0.2) with
        | true =>
          have ef : ([j].filter fun i => !before o (xs.getD i c0.2) (xs.getD (i + 1) c0.2)) = [] := by rw [List.filter_cons, hb] <;> rfl
          refine ⟨?_, s2⟩
          rw [hd, List.range_succ, List.filter_append, ef, List.append_nil]
        | false =>
          have ef : ([j].filter fun i => !before o (xs.getD i c0.2) (xs.getD (i + 1) c0.2)) = [j] := by rw [List.filter_cons, hb] <;> rfl
          refine ⟨_, rfl, _, hd, szlt (by rw [List.length_map]; omega), ?_, Rs.Same.mut s2 hD⟩
          rw [upd_same, List.range_succ, List.filter_append, ef, List.map_append] <;> rfl
      · rintro H2 ⟨hd, s2⟩
        refine ⟨sz0, fun p hp => eqE hd hp (b := isRunB ks o xs) ?_ (k _ ((s1.trans s2).trans (Rs.Same.new hp)))⟩
        unfold isRunB
        rw [a1, Bool.true_and, List.isEmpty_map, filter_nil_all]
theorem isRunB_row {ks : List Str} {o : Ord} {xs : List Pr} (h : isRunB ks o xs = true) : ∀ p ∈ xs, isRow ks p.2 = true := fun p hp => by
  unfold isRunB at h
  simp only [Bool.and_eq_true, List.all_eq_true, decide_eq_true_eq] at h
  exact (h.1 p hp).2
abbrev RunV : Rel (List Pr) := LstV PairAt
theorem runs_same {H H' : Hp} {l : Addr} {rs : List (List Pr)} (s : Same H H') (h : Lst RunV H l rs) : Lst RunV H' l rs := let ⟨vs, a, b⟩ := h; ⟨vs, s _ _ a, P2.mono (fun _ _ q => q.same PairAt.st s) b⟩
def seenK (ns : List Int) : List (Key × V) := ns.map fun n => (Sum.inl n, V.bl true)
theorem seen_none {ns : List Int} {n : Int} (h : n ∉ ns) : valV (seenK ns) (Sum.inl n) = none := by
  induction ns with
  | nil => rfl
  | cons m ns ih =>
    show valV ((Sum.inl m, V.bl true) :: seenK ns) _ = _
    rw [valV_neg (by
      show ¬ (Sum.inl m : Key) = Sum.inl n
      intro e
      injection e with e
      exact h (by rw [e]; exact List.mem_cons_self ..))]
    exact ih fun z => h (List.mem_cons_of_mem _ z)
theorem take_flat {α : Type} {rs : List (List α)} {j : Nat} {r : List α} (h : rs[j]? = some r) : (rs.take (j + 1)).flatten = (rs.take j).flatten ++ r := by
  rw [List.take_succ, h, List.flatten_append]
  simp
theorem flat_len {α : Type} {rs : List (List α)} : ∀ j, (rs.take j).flatten.length ≤ rs.flatten.length := fun j => by
  have e : rs.flatten = (rs.take j).flatten ++ (rs.drop j).flatten := by rw [← List.flatten_append, List.take_append_drop]
  rw [e, List.length_append]
  omega
theorem flat_set {α : Type} : ∀ {ts : List (List α)} {s : Nat} {p : α} {t : List α}, ts[s]? = some (p :: t) → ts.flatten.Perm (p :: (ts.set s t).flatten)
  | [], s, p, t, h => by simp at h
  | a :: ts, 0, p, t, h => by
    have e : a = p :: t := by simpa using h
    subst e
    exact .refl _
  | a :: ts, s + 1, p, t, h => by
    have ih := flat_set (ts := ts) (s := s) (by simpa using h)
    rw [List.set_cons_succ, List.flatten_cons, List.flatten_cons]
    exact (ih.append_left a).trans List.perm_middle
theorem hd_heads {ts : List (List Pr)} {j : Nat} {q : Pr} : hd (ts.map List.head?) j = some q ↔ ∃ r, ts[j]? = some (q :: r) := by
  unfold hd
  rw [List.getD_eq_getElem?_getD, List.getElem?_map]
  cases ts[j]? with
  | none => simp
  | some t =>
    cases t with
    | nil => simp
    | cons a t => simp
structure Mg (ks : List Str) (o : Ord) (found : List Pr) (ts : List (List Pr)) : Prop where
  fine : Fine ks (found ++ ts.flatten)
  up : Up o found
  ups : ∀ t ∈ ts, Up o t
  cross : ∀ x ∈ found, ∀ y ∈ ts.flatten, before o x y = true
theorem Mg.step {ks : List Str} {o : Ord} (ho : ∀ t ∈ o, t.1 < ks.length) {found : List Pr} {ts : List (List Pr)} (M : Mg ks o found ts) {s : Nat} {p : Pr} {t : List Pr} (h : ts[s]? = some (p :: t)) (low : ∀ j q, hd (ts.map List.head?) j = some q → before o q p = false) : Mg ks o (found ++ [p]) (ts.set s t) := by
  have pm := flat_set h
  have pm2 : ((found ++ [p]) ++ (ts.set s t).flatten).Perm (found ++ ts.flatten) := by
    rw [List.append_assoc]
    exact List.Perm.append_left _ pm.symm
  have fine2 := M.fine.perm pm2
  have sub : ∀ y ∈ (ts.set s t).flatten, y ∈ ts.flatten := fun y hy => pm.mem_iff.mpr (List.mem_cons_of_mem _ hy)
  have pin : p ∈ ts.flatten := pm.mem_iff.mpr (List.mem_cons_self ..)
  have ptm : (p :: t) ∈ ts := List.mem_of_getElem? h
  have upt := M.ups _ ptm
  have ne : ∀ y ∈ (ts.set s t).flatten, p.1 ≠ y.1 := fun y hy => by
    have nd := fine2.nd
    exact nodup_ne (xs := found ++ [p]) nd (by simp) hy
  have row : ∀ y ∈ ts.flatten, isRow ks y.2 = true := fun y hy => M.fine.row y (List.mem_append_right _ hy)
  refine ⟨fine2, ?_, ?_, ?_⟩
  · refine List.pairwise_append.mpr ⟨M.up, by simp, fun x hx y hy => ?_⟩
    rw [List.mem_singleton] at hy
    subst hy
    exact M.cross x hx _ pin
  · intro u hu
    rcases List.mem_or_eq_of_mem_set hu with z | z
    · exact M.ups u z
    · rw [z]; exact List.Pairwise.of_cons upt
  · intro x hx y hy
    rcases List.mem_append.mp hx with z | z
    · exact M.cross x z y (sub y hy)
    · rw [List.mem_singleton] at z
      subst z
      obtain ⟨u, hu, yu⟩ := List.mem_flatten.mp hy
      obtain ⟨j, hj, ej⟩ := List.mem_iff_getElem.mp hu
      rw [List.length_set] at hj
      rw [List.getElem_set] at ej
      split at ej
      · rw [← ej] at yu
        exact List.rel_of_pairwise_cons upt yu
      · rename_i hne
        cases hu2 : u with
        | nil => rw [hu2] at yu; simp at yu
        | cons q r =>
          rw [hu2] at ej yu
          have e2 : ts[j]? = some (q :: r) := by rw [List.getElem?_eq_getElem hj, ej]
          have lowq := low j q (hd_heads.mpr ⟨r, e2⟩)
          have qin : q ∈ (ts.set s t).flatten := List.mem_flatten.mpr ⟨q :: r, by
            refine List.mem_of_getElem? (i := j) ?_
            rw [List.getElem?_set_ne hne]
            exact e2, List.mem_cons_self ..⟩
          have rq := row q (sub q qin)
          have rx := row x pin
          have b1 := after_of ho rq rx (fun e => ne q qin e.symm) lowq
          rcases List.mem_cons.mp yu with w | w
          · rw [w]; exact b1
          · have ry := row y (sub y hy)
            have uq := M.ups _ (List.mem_of_getElem? e2)
            exact before_trans o (cmp_of ho rx rq) (cmp_of ho rq ry) b1 (List.rel_of_pairwise_cons uq w)
theorem all_none {ts : List (List Pr)} (h : ∀ s, hd (ts.map List.head?) s = none) : ts.flatten = [] := by
  rw [List.flatten_eq_nil_iff]
  intro l hl
  obtain ⟨j, hj, ej⟩ := List.mem_iff_getElem.mp hl
  cases l with
  | nil => rfl
  | cons q r =>
    have := hd_heads.mpr ⟨r, (by rw [List.getElem?_eq_getElem hj, ej] : ts[j]? = some (q :: r))⟩
    rw [h j] at this
    cases this
theorem up_steps {ks : List Str} {o : Ord} (ho : ∀ t ∈ o, t.1 < ks.length) : ∀ {xs : List Pr}, (∀ p ∈ xs, isRow ks p.2 = true) → (∀ i, i + 1 < xs.length → before o (xs.getD i c0.2) (xs.getD (i + 1) c0.2) = true) → Up o xs
  | [], _, _ => .nil
  | [x], _, _ => by simp [Up]
  | x :: y :: l, hr, h => by
    have ih : Up o (y :: l) := up_steps ho (fun p hp => hr p (List.mem_cons_of_mem _ hp)) fun i hi => h (i + 1) (by simpa using hi)
    have b0 : before o x y = true := h 0 (by simp)
    refine List.pairwise_cons.mpr ⟨fun z hz => ?_, ih⟩
    rcases List.mem_cons.mp hz with e | e
    · rw [e]; exact b0
    · exact before_trans o (cmp_of ho (hr _ (by simp)) (hr _ (by simp))) (cmp_of ho (hr _ (by simp)) (hr _ (by simp [e]))) b0 (List.rel_of_pairwise_cons ih e)
theorem isRunB_up {ks : List Str} {o : Ord} (ho : ∀ t ∈ o, t.1 < ks.length) {xs : List Pr} (h : isRunB ks o xs = true) : Up o xs := by
  refine up_steps ho (isRunB_row h) fun i hi => ?_
  unfold isRunB at h
  simp only [Bool.and_eq_true, List.all_eq_true, List.mem_range] at h
  exact h.2 i (by omega)
theorem cnt_leaf {o : Ord} {hs : Hds} {bs : List (Option Nat)} {many : Nat} {bad : Nat → Prop} (T : TreeOk o hs bs many bad) : ∀ n j, n = many - j → j ≤ many → cnt bs (many + j) ≤ hs.length - j
  | 0, j, e, h => by
    have : j = many := by omega
    subst this
    unfold cnt
    rw [List.drop_of_length_le (by rw [T.len]; omega)]
    simp
  | n + 1, j, e, h => by
    have ih := cnt_leaf T n (j + 1) (by omega) (by omega)
    rw [cnt_step (by rw [T.len]; omega), T.leaf j (by omega)]
    by_cases c : j < hs.length
    · have : (if (leafOf hs j).isSome = true then 1 else 0) ≤ 1 := by split <;> omega
      have e2 : many + j + 1 = many + (j + 1) := by omega
      rw [e2]
      omega
    · have : leafOf hs j = none := by
        unfold leafOf hd
        rw [List.getD_eq_getElem?_getD, List.getElem?_eq_none (by omega)]
        rfl
      rw [this]
      have e2 : many + j + 1 = many + (j + 1) := by omega
      rw [e2]
      simp only [Option.isSome_none, Bool.false_eq_true, if_false]
      omega
def MgInv (K : PySem.W.Frag) (H : Hp) (ks : List Str) (o : Ord) (rs : List (List Pr)) (kv : V) (lo lr lp p lo2 lh lb lf : Addr) (e : Nat) (looks : Int) (b : Nat → Prop) (σ : L2.St) (H' : Hp) : Prop :=
  ∃ (ts : List (List Pr)) (pl : List Nat) (found : List Pr) (bs : List (Option Nat)) (lks : Int) (v6 : V) (x7 : Option V), b ts.flatten.length ∧ σ = [some kv, some (.ref lo), some (.ref lr), some (.ref lp), some (.ref p), some (.ref lf), some v6, x7] ∧ Same H H' ∧ H' lp = some (.lst (pl.map fun (n : Nat) => V.int (n : Int))) ∧
          TreeS K H' p lo2 lh lb o (ts.map List.head?) bs (2 ^ e) lks ∧ TreeOk o (ts.map List.head?) bs (2 ^ e) (fun _ => False) ∧ NatAt H' v6 (bst bs 1) ∧ Lst PairAt H' lf found ∧ Mg ks o found ts ∧ (found ++ ts.flatten).Perm rs.flatten ∧ ts.length = rs.length ∧ pl.length = rs.length ∧ (∀ s, ts.getD s [] = (rs.getD s []).drop (pl.getD s 0)) ∧ looks ≤ lks ∧ lks ≤ looks + (e : Int) * (found.length : Int)
theorem heads_set {ts : List (List Pr)} {s : Nat} {t : List Pr} : (ts.set s t).map List.head? = (ts.map List.head?).set s t.head? := by rw [List.map_set]
end Rs

namespace Rs
open PySem PySem.Spec PyProof.Rows L2
open LamX
abbrev N_law_class : List Str := ["_law_e", "_law_kinds_here", "_law_words"]
abbrev P_law_class : List Str := ["_law_e"]
def t_law_class (K : PySem.W.Frag) (D a : Addr) (d : Option Addr) : TS := (tSeq (tAsg (tLst (tCons (tCB (rIsX K D a d) (tCons (tVar 0) (tConsC (.ref (He.ga K "BadKinds")) tNil))) (tCons (tCB (rIsX K D a d) (tCons (tVar 0) (tConsC (.ref (He.ga K "BadOrder")) tNil))) (tCons (tCB (rIsX K D a d) (tCons (tVar 0) (tConsC (.ref (He.ga K "BadRows")) tNil))) (tCons (tCB (rIsX K D a d) (tCons (tVar 0) (tConsC (.ref (He.ga K "BadRuns")) tNil))) tNil))))) (gName 1))
  (tSeq (tAsg (tOp rCat (tVar 1) (tLst (tCons (tCB (rIsX K D a d) (tCons (tVar 0) (tConsC (.ref (He.ga K "BadRoom")) tNil))) (tCons (tCB (rIsX K D a d) (tCons (tVar 0) (tConsC (.ref (He.ga K "BadLengths")) tNil))) (tCons (tCB (rIsX K D a d) (tCons (tVar 0) (tConsC (.ref (He.ga K "BadPlan")) tNil))) (tCons (tCB (rIsX K D a d) (tCons (tVar 0) (tConsC (.ref (He.ga K "BadPaper")) tNil))) tNil)))))) (gName 1))
   (tSeq (tAsg (tOp rCat (tVar 1) (tLst (tCons (tCB (rIsX K D a d) (tCons (tVar 0) (tConsC (.ref (He.ga K "BadCount")) tNil))) (tCons (tCB (rIsX K D a d) (tCons (tVar 0) (tConsC (.ref (He.ga K "BadBlock")) tNil))) (tCons (tCB (rIsX K D a d) (tCons (tVar 0) (tConsC (.ref (He.ga K "Stopped")) tNil))) (tCons (tCB (rIsX K D a d) (tCons (tVar 0) (tConsC (.ref (He.ga K "Shut")) tNil))) tNil)))))) (gName 1))
    (tSeq (tAsg (tOp rCat (tVar 1) (tLst (tCons (tCB (rIsX K D a d) (tCons (tVar 0) (tConsC (.ref (He.ga K "NotYet")) tNil))) (tCons (tCB (rIsX K D a d) (tCons (tVar 0) (tConsC (.ref (He.ga K "Empty")) tNil))) (tCons (tCB (rIsX K D a d) (tCons (tVar 0) (tConsC (.ref (He.ga K "BadText")) tNil))) tNil))))) (gName 1))
     (tSeq (tAsg (tLst (tConsC (.str "BadKinds") (tConsC (.str "BadOrder") (tConsC (.str "BadRows") (tConsC (.str "BadRuns") (tConsC (.str "BadRoom") (tConsC (.str "BadLengths") (tConsC (.str "BadPlan") (tConsC (.str "BadPaper") (tConsC (.str "BadCount") tNil)))))))))) (gName 2))
      (tSeq (tAsg (tOp rCat (tVar 2) (tLst (tConsC (.str "BadBlock") (tConsC (.str "Stopped") (tConsC (.str "Shut") (tConsC (.str "NotYet") (tConsC (.str "Empty") (tConsC (.str "BadText") tNil)))))))) (gName 2))
       (tRet (tIf (tAnd (tTest (tOpC rEq (tBM K "list" (xCount K) (tVar 1) (tConsC (.bl true) tNil)) (.int 1))) (tB (tCB (rIsX K D a d) (tCons (tVar 0) (tConsC (.ty "ValueError") tNil))))) (tOp (rIxL K) (tVar 2) (tBM K "list" (rIndex K) (tVar 1) (tConsC (.bl true) tNil))) (tC (.str ""))))))))))
theorem DictOk.same {d : Option Addr} {H H' : Hp} (h : DictOk d H) (s : Same H H') : DictOk d H' := fun dd e => let ⟨fs, q⟩ := h dd e; ⟨fs, s _ _ q⟩
def truths (x : Str) : List V := errNames.map fun y => V.bl (decide (x = y))
theorem names_nd : errNames.Nodup := by decide +kernel
theorem truths_flat (x : Str) : (truths x).all flatV = true := by
  unfold truths
  rw [List.all_map]
  exact List.all_eq_true.mpr fun _ _ => rfl
theorem eqV_t (b : Bool) : eqV (.bl b) (.bl true) = b := by cases b <;> rfl
theorem truths_one {x : Str} : ∀ {l : List Str}, x ∈ l → l.Nodup → (l.map fun y => V.bl (decide (x = y))).countP (fun z => eqV z (.bl true)) = 1
  | y :: l, h, nd => by
    rw [List.nodup_cons] at nd
    rw [List.map_cons, List.countP_cons, eqV_t]
    by_cases e : x = y
    · have z : (l.map fun y => V.bl (decide (x = y))).countP (fun z => eqV z (.bl true)) = 0 := by
        rw [List.countP_eq_zero]
        intro v hv
        obtain ⟨u, hu, rfl⟩ := List.mem_map.mp hv
        rw [eqV_t, decide_eq_true_eq]
        intro q
        exact nd.1 (by rw [← e, q]; exact hu)
      rw [z, decide_eq_true e]
      rfl
    · rw [truths_one ((List.mem_cons.mp h).resolve_left e) nd.2, decide_eq_false e]
      rfl
theorem does_law_class {K : PySem.W.Frag} {x : Str} {a : Addr} {d : Option Addr} {H : Hp} {Q : VK} (E : ErrIs K x) (dk : DictOk d H) (k : ∀ H', Same H H' → Q (.str x) H') : t_law_class K (He.ga K x) a d { nx := fun _ H' => Q .non H', rt := Q } (start N_law_class [.ref a]) H := by
  refine ⟨_, rfl, _, .ref (He.ga K "BadKinds"), _, rfl, fun _ h => h, E.k _ (by decide +kernel), dk, _, rfl, _, .ref (He.ga K "BadOrder"), _, rfl, fun _ h => h, E.k _ (by decide +kernel), dk, _, rfl, _, .ref (He.ga K "BadRows"), _, rfl, fun _ h => h, E.k _ (by decide +kernel), dk, _, rfl, _, .ref (He.ga K "BadRuns"), _, rfl, fun _ h => h, E.k _ (by decide +kernel), dk, szle (by show 4 ≤ 100000; decide), fun l1 h1 => ?_⟩
  generalize gX : upd _ l1 _ = H1
  have s1 := newS h1 gX
  have e1 := newE gX
  clear gX
  have s01 : Same H H1 := s1
  refine ⟨_, rfl, _, rfl, _, .ref (He.ga K "BadRoom"), _, rfl, fun _ h => h, E.k _ (by decide +kernel), (dk.same s01), _, rfl, _, .ref (He.ga K "BadLengths"), _, rfl, fun _ h => h, E.k _ (by decide +kernel), (dk.same s01), _, rfl, _, .ref (He.ga K "BadPlan"), _, rfl, fun _ h => h, E.k _ (by decide +kernel), (dk.same s01), _, rfl, _, .ref (He.ga K "BadPaper"), _, rfl, fun _ h => h, E.k _ (by decide +kernel), (dk.same s01), szle (by show 4 ≤ 100000; decide), fun l2 h2 => ?_⟩
  generalize gX : upd _ l2 _ = H2
  have s2 := newS h2 gX
  have e2 := newE gX
  clear gX
  refine ⟨l1, l2, [V.bl (decide (x = "BadKinds")), V.bl (decide (x = "BadOrder")), V.bl (decide (x = "BadRows")), V.bl (decide (x = "BadRuns"))], [V.bl (decide (x = "BadRoom")), V.bl (decide (x = "BadLengths")), V.bl (decide (x = "BadPlan")), V.bl (decide (x = "BadPaper"))], rfl, rfl, s2 _ _ e1, e2, szle (by show 4 + 4 ≤ 100000; decide), fun l3 h3 => ?_⟩
  generalize gX : upd _ l3 _ = H3
  have s3 := newS h3 gX
  have e3 := newE gX
  clear gX
  have s03 : Same H H3 := (s01.trans s2).trans s3
  refine ⟨_, rfl, _, rfl, _, .ref (He.ga K "BadCount"), _, rfl, fun _ h => h, E.k _ (by decide +kernel), (dk.same s03), _, rfl, _, .ref (He.ga K "BadBlock"), _, rfl, fun _ h => h, E.k _ (by decide +kernel), (dk.same s03), _, rfl, _, .ref (He.ga K "Stopped"), _, rfl, fun _ h => h, E.k _ (by decide +kernel), (dk.same s03), _, rfl, _, .ref (He.ga K "Shut"), _, rfl, fun _ h => h, E.k _ (by decide +kernel), (dk.same s03), szle (by show 4 ≤ 100000; decide), fun l4 h4 => ?_⟩
  generalize gX : upd _ l4 _ = H4
  have s4 := newS h4 gX
  have e4 := newE gX
  clear gX
  refine ⟨l3, l4, [V.bl (decide (x = "BadKinds")), V.bl (decide (x = "BadOrder")), V.bl (decide (x = "BadRows")), V.bl (decide (x = "BadRuns")), V.bl (decide (x = "BadRoom")), V.bl (decide (x = "BadLengths")), V.bl (decide (x = "BadPlan")), V.bl (decide (x = "BadPaper"))], [V.bl (decide (x = "BadCount")), V.bl (decide (x = "BadBlock")), V.bl (decide (x = "Stopped")), V.bl (decide (x = "Shut"))], rfl, rfl, s4 _ _ e3, e4, szle (by show 8 + 4 ≤ 100000; decide), fun l5 h5 => ?_⟩
  generalize gX : upd _ l5 _ = H5
  have s5 := newS h5 gX
  have e5 := newE gX
  clear gX
  have s05 : Same H H5 := (s03.trans s4).trans s5
  refine ⟨_, rfl, _, rfl, _, .ref (He.ga K "NotYet"), _, rfl, fun _ h => h, E.k _ (by decide +kernel), (dk.same s05), _, rfl, _, .ref (He.ga K "Empty"), _, rfl, fun _ h => h, E.k _ (by decide +kernel), (dk.same s05), _, rfl, _, .ref (He.ga K "BadText"), _, rfl, fun _ h => h, E.k _ (by decide +kernel), (dk.same s05), szle (by show 3 ≤ 100000; decide), fun l6 h6 => ?_⟩
  generalize gX : upd _ l6 _ = H6
  have s6 := newS h6 gX
  have e6 := newE gX
  clear gX
  refine ⟨l5, l6, [V.bl (decide (x = "BadKinds")), V.bl (decide (x = "BadOrder")), V.bl (decide (x = "BadRows")), V.bl (decide (x = "BadRuns")), V.bl (decide (x = "BadRoom")), V.bl (decide (x = "BadLengths")), V.bl (decide (x = "BadPlan")), V.bl (decide (x = "BadPaper")), V.bl (decide (x = "BadCount")), V.bl (decide (x = "BadBlock")), V.bl (decide (x = "Stopped")), V.bl (decide (x = "Shut"))], [V.bl (decide (x = "NotYet")), V.bl (decide (x = "Empty")), V.bl (decide (x = "BadText"))], rfl, rfl, s6 _ _ e5, e6, szle (by show 12 + 3 ≤ 100000; decide), fun l7 h7 => ?_⟩
  generalize gX : upd _ l7 _ = H7
  have s7 := newS h7 gX
  have e7 := newE gX
  clear gX
  have s07 : Same H H7 := (s05.trans s6).trans s7
  refine ⟨szle (by show 9 ≤ 100000; decide), fun w1 g1 => ?_⟩
  generalize gX : upd _ w1 _ = G1
  have t1 := newS g1 gX
  have f1 := newE gX
  clear gX
  refine ⟨_, rfl, szle (by show 6 ≤ 100000; decide), fun w2 g2 => ?_⟩
  generalize gX : upd _ w2 _ = G2
  have t2 := newS g2 gX
  have f2 := newE gX
  clear gX
  refine ⟨w1, w2, _, _, rfl, rfl, t2 _ _ f1, f2, szle (by show 9 + 6 ≤ 100000; decide), fun w3 g3 => ?_⟩
  generalize gX : upd _ w3 _ = G3
  have t3 := newS g3 gX
  have f3 := newE gX
  clear gX
  have t0 : Same H7 G3 := (t1.trans t2).trans t3
  have eK : G3 l7 = some (.lst (truths x)) := t0 _ _ e7
  have eW : G3 w3 = some (.lst (errNames.map V.str)) := f3
  have sK : Same H G3 := s07.trans t0
  refine ⟨_, rfl, .inl ⟨rfl, _, SqL.of eK⟩, l7, truths x, .bl true, rfl, rfl, SqL.of eK, rfl, truths_flat x, rfl, _, rfl, ?_⟩
  rw [show (truths x).countP (fun z => eqV z (.bl true)) = 1 from truths_one E.mem names_nd]
  refine ⟨_, rfl, _, .type "ValueError", _, rfl, fun _ h => h, E.v, dk.same sK, ?_⟩
  obtain ⟨j, hj, ej⟩ := List.getElem_of_mem E.mem
  have hj2 : errNames[j]? = some x := by rw [List.getElem?_eq_getElem hj, ej]
  refine ⟨_, rfl, _, rfl, _, rfl, .inl ⟨rfl, _, SqL.of eK⟩, l7, truths x, .bl true, j, .bl true, rfl, rfl, SqL.of eK, rfl, truths_flat x, ?_, rfl, fun m z hm hz => ?_, ixL eW rfl (by rw [List.getElem?_map, hj2]; rfl) (k _ sK)⟩
  · unfold truths
    rw [List.getElem?_map, hj2]
    show some (V.bl (decide (x = x))) = _
    rw [decide_eq_true rfl]
  · unfold truths at hz
    rw [List.getElem?_map] at hz
    cases q : errNames[m]? with
    | none => rw [q] at hz; cases hz
    | some y =>
      rw [q] at hz
      cases hz
      rw [eqV_t]
      refine decide_eq_false fun z => ?_
      subst z
      have := (List.getElem?_inj (List.getElem?_eq_some_iff.mp q).1 names_nd).mp (q.trans hj2.symm)
      omega
abbrev N_law_told : List Str := ["_law_work", "_law_e", "_law_word"]
abbrev P_law_told : List Str := ["_law_work"]
def t_law_told (K : PySem.W.Frag) (a : Addr) (cls : Value) (d : Option Addr) : TS := (tSeq (tAsg (tWarm K 1 a cls d N_law_class (t_law_class K)) (gName 2))
  (tSeq (tIfS (tTest (tOpC rEq (tVar 2) (.str "BadRuns"))) (tRet (tTup (tCons (tVar 2) (tCons (tErrF K 1 a cls d "number") tNil)))) tNext)
   (tRet (tTup (tCons (tVar 2) (tCons (tIf (tTest (tOp (rIn K false) (tVar 2) (tTup (tConsC (.str "BadRows") (tConsC (.str "BadText") tNil))))) (tErrF K 1 a cls d "place") (tC (.int 0))) tNil))))))
theorem set1 {σ : L2.St} {v : Option V} (h : σ.length = 3) : ∃ x0 x2, σ.set 1 v = [x0, v, x2] := by
  match σ, h with
  | [x0, _, x2], _ => exact ⟨x0, x2, rfl⟩
theorem ErrNo.ok {K : PySem.W.Frag} {x : Str} {d : Option Addr} {H : Hp} {v : V} (h : ErrNo K x d H v) : DictOk d H := by
  unfold ErrNo at h
  intro dd e
  split at h
  · obtain ⟨d2, fs, _, _, e2, q, _⟩ := h
    rw [e2] at e
    cases e
    exact ⟨fs, q⟩
  · rw [h.1] at e
    cases e
theorem ErrNo.same {K : PySem.W.Frag} {x : Str} {d : Option Addr} {H H' : Hp} {v : V} (h : ErrNo K x d H v) (s : Same H H') : ErrNo K x d H' v := by
  unfold ErrNo at h ⊢
  split at h
  · rename_i c
    rw [if_pos c]
    obtain ⟨dd, fs, a, b, e, q, l⟩ := h
    exact ⟨dd, fs, a, b, e, s _ _ q, l⟩
  · rename_i c
    rw [if_neg c]
    exact h
theorem two_words {x : Str} : inV (.str x) [.str "BadRows", .str "BadText"] = decide (x = "BadRows" ∨ x = "BadText") := by
  unfold inV
  rw [List.any_cons, List.any_cons, List.any_nil, Bool.or_false]
  show (("BadRows" : Str) == x || ("BadText" : Str) == x) = _
  by_cases c : x = "BadRows"
  · subst c
    simp
  · by_cases c2 : x = "BadText"
    · subst c2
      simp
    · simp [c, c2, Ne.symm c, Ne.symm c2, beq_eq_false_iff_ne.mpr (Ne.symm c), beq_eq_false_iff_ne.mpr (Ne.symm c2)]
theorem pure_law_told {K : PySem.W.Frag} : ∀ (a : Addr) (cls : Value) (d : Option Addr) (H : Hp) (Q : VK) (D : Ends) (σ : L2.St), rErr K cls d H Q → D.rt = Q → σ.length = N_law_told.length → t_law_told K a cls d D (σ.set 1 (some (.ref a))) H := by
  intro a cls d H Q D σ h eD hl
  obtain ⟨x, v, rfl, E, no, k⟩ := h
  obtain ⟨x0, x2, eσ⟩ := set1 (v := some (.ref a)) hl
  rw [eσ]
  refine ⟨rfl, He.ga K x, rfl, E.c, does_law_class E no.ok fun H1 s1 => ?_⟩
  have no1 := no.same s1
  refine ⟨_, rfl, rfl, _, rfl, ?_⟩
  unfold ErrNo at no1
  by_cases c1 : x = "BadRuns"
  · rw [if_pos (.inl c1), if_pos c1] at no1
    obtain ⟨dd, fs, hx, hn, ed, eH, l⟩ := no1
    rw [decide_eq_true (show V.str x = V.str "BadRuns" by rw [c1])]
    refine ⟨_, rfl, rfl, _, dd, fs, v, rfl, hx, hn, ed, eH, l, szle (by show 2 ≤ 100000; decide), fun q hq => ?_⟩
    generalize gX : upd _ q _ = H2
    have s2 := newS hq gX
    have e2 := newE gX
    clear gX
    rw [eD]
    exact k q H2 (s1.free hq) (s1.trans s2) e2
  rw [decide_eq_false (show ¬ V.str x = V.str "BadRuns" from fun z => c1 (V.str.inj z))]
  refine ⟨_, rfl, _, rfl, szle (by show 2 ≤ 100000; decide), fun q hq => ?_⟩
  have q0 := s1.free hq
  generalize gX : upd _ q _ = H2
  have s2 := newS hq gX
  have e2 := newE gX
  clear gX
  refine ⟨q, _, rfl, .inr (SqT.of e2), rfl, rfl, _, rfl, ?_⟩
  rw [if_neg (by decide), two_words]
  by_cases c2 : x = "BadRows" ∨ x = "BadText"
  · rw [if_pos (.inr c2), if_neg c1] at no1
    obtain ⟨dd, fs, hx, hn, ed, eH, l⟩ := no1
    rw [decide_eq_true c2]
    refine ⟨rfl, _, dd, fs, v, rfl, hx, hn, ed, s2 _ _ eH, l, szle (by show 2 ≤ 100000; decide), fun r hr => ?_⟩
    have r0 := (s1.trans s2).free hr
    generalize gX : upd _ r _ = H3
    have s3 := newS hr gX
    have e3 := newE gX
    clear gX
    rw [eD]
    exact k r H3 r0 ((s1.trans s2).trans s3) e3
  · rw [if_neg (fun z => z.elim c1 c2)] at no1
    obtain ⟨_, rfl⟩ := no1
    rw [decide_eq_false c2]
    refine ⟨szle (by show 2 ≤ 100000; decide), fun r hr => ?_⟩
    have r0 := (s1.trans s2).free hr
    generalize gX : upd _ r _ = H3
    have s3 := newS hr gX
    have e3 := newE gX
    clear gX
    rw [eD]
    exact k r H3 r0 ((s1.trans s2).trans s3) e3
end Rs

namespace Rs
open PySem PySem.Spec PyProof.Rows L2
open LamX
def ButN (F : List Addr) (H H' : Hp) : Prop := ∀ x u, H x = some u → (∀ ps, u ≠ .tbl ps) → x ∉ F → H' x = some u
theorem ButN.of {F : List Addr} {H H' : Hp} (k : But F H H') : ButN F H H' := fun x u e _ n => k x u e n
theorem ButN.ext {F : List Addr} {H H' : Hp} (k : ExtN H H') : ButN F H H' := fun x u e n _ => k x u e n
theorem ButN.trans {F : List Addr} {H H1 H2 : Hp} (a : ButN F H H1) (b : ButN F H1 H2) : ButN F H H2 := fun x u e n m => b x u (a x u e n m) n m
theorem ButN.wide {F F' : List Addr} {H H' : Hp} (k : ButN F H H') (s : ∀ x ∈ F, x ∈ F') : ButN F' H H' := fun x u e n m => k x u e n fun z => m (s x z)
def Free (F : List Addr) (H : Hp) : Prop := ∀ x ∈ F, ∀ u, H x = some u → (∀ ps, u ≠ .tbl ps) ∧ ∀ c q, u ≠ CodeO c q
theorem tabs_but {T : List (Addr × Str)} {F : List Addr} {H H' : Hp} (t : Tabs T H) (k : But F H H') (f : Free F H) : Tabs T H' := fun p hp => by
  obtain ⟨ps, h1, h2, h3⟩ := t p hp
  refine ⟨ps, k _ _ h1 fun z => (f _ z _ h1).1 ps rfl, h2, fun pos cv hc => ?_⟩
  obtain ⟨c, e1, e2⟩ := h3 pos cv hc
  exact ⟨c, e1, k _ _ e2 fun z => (f _ z _ e2).2 _ _ rfl⟩
theorem tabs_same {T : List (Addr × Str)} {H H' : Hp} (t : Tabs T H) (s : Same H H') : Tabs T H' := t.ext s
theorem free_lst {vs : List V} : (∀ ps, HO.lst vs ≠ .tbl ps) ∧ ∀ c q, HO.lst vs ≠ CodeO c q := ⟨fun _ z => (by cases z), fun _ _ z => (by unfold CodeO at z; cases z)⟩
section
variable {K : PySem.W.Frag} {H H' : Hp} {p q a bl : Addr} {F G : List Addr}
theorem Box.free (h : Box H a bl) : Free [a, bl] H := fun x hx u e => by
  obtain ⟨ns, st, e1, e2, _⟩ := h.ex
  simp only [List.mem_cons, List.not_mem_nil, or_false] at hx
  rcases hx with rfl | rfl
  · rw [e1] at e; cases e; exact free_lst
  · rw [e2] at e; cases e; exact free_lst
theorem ButN.tup (k : ButN F H H') (n : ∀ x ∈ F, ∀ vs, H x ≠ some (.tup vs)) : TupLe H H' := fun c xs e => k c _ e (fun _ z => by cases z) fun z => n c z xs e
theorem Box.keepN {Z : List Addr} (h : Box H a bl) (k : ButN Z H H') (n : ∀ x ∈ [a, bl], x ∉ Z) : Box H' a bl := h.keep (fun o e => k a o e (h.free a (by simp) o e).1 (n a (by simp))) fun o e => k bl o e (h.free bl (by simp) o e).1 (n bl (by simp))
end
theorem extN_tup {H H' : Hp} (k : ExtN H H') : TupLe H H' := fun c xs e => k c _ e fun _ z => by cases z
end Rs

namespace Rs
open PySem PySem.Spec PyProof.Rows L2
open LamX
abbrev N_law_all : List Str := ["_law_works", "_law_due", "_law_work"]
abbrev P_law_all : List Str := ["_law_works", "_law_due"]
def t_law_all (K : PySem.W.Frag) (LS : List LamF) (tt : Nat → XK → Hp → VK → Prop) : TS := (tRet (tOp (xEqE K) (tLc (iList K (tVar 0)) (gName 2) (tNot (tB (tCall (sp_law_alike K) [] E0 (tCons (tToldV K LS tt 2) (tCons (tVar 1) tNil))))) (tVar 2) [2]) (tLst tNil)))
theorem all_good {K : PySem.W.Frag} {LS : List LamF} {tt : Nat → XK → Hp → VK → Prop} {p : Addr} {dv : V} {fs : List Addr} {H : Hp} {Q : VK} (I : Addr → Nat → Hp → Prop) (i0 : ∀ D, H D = none → I D 0 (upd H D (.lst [])))
    (sq0 : SqL K H p (fs.map V.ref)) (sq : ∀ D j H', I D j H' → SqL K H' p (fs.map V.ref)) (dd : ∀ D H', I D fs.length H' → H' D = some (.lst []))
    (step : ∀ D j f H', fs[j]? = some f → I D j H' → ∃ n, LamN LS n f H' ∧ ∀ Qn : VK, (∀ v H'', (∀ Q E, Q (.bl true) H'' → sp_law_alike K [v, dv] H'' Q E) → I D (j + 1) H'' → Qn v H'') → tt n (fun cls d H'' => rErr K cls d H'' Qn) H' Qn)
    (fin : ∀ D e H', I D fs.length H' → H' e = none → Q (.bl true) (upd H' e (.lst []))) : (t_law_all K LS tt) { nx := fun _ H' => Q .non H', rt := Q } (start N_law_all [.ref p, dv]) H := by
  refine ⟨_, rfl, p, rfl, ⟨_, sq0⟩, fun D hD => ?_⟩
  refine lc_list (K := K) (a := p) (xs := fs.map V.ref) (fun j H' => I D j H') (i0 D hD) (fun j H' _ h => sq D j H' h) ?_ ?_
  · intro j v H' hj hI
    rw [List.getElem?_map] at hj
    cases hf : fs[j]? with
    | none =>
      rw [hf] at hj
      cases hj
    | some f =>
      rw [hf] at hj
      cases hj
      obtain ⟨n, hL, ht⟩ := step D j f H' hf hI
      refine ⟨rfl, f, n, rfl, hL, ht _ fun v H'' al hi => ⟨dv, rfl, ?_⟩⟩
      dsimp only [tNil, List.append_nil]
      exact al _ _ ⟨true, rfl, hi⟩
  · intro H' hI
    rw [List.length_map] at hI
    exact ⟨sz0, fun e he => eqE (dd D H' hI) he (b := true) rfl (fin D e H' hI he)⟩
end Rs

namespace Rs
open PySem PySem.Spec PyProof.Rows L2
open LamX
abbrev N_need_runsX : List Str := ["kinds", "order", "runs", "seen", "number", "run", "pair"]
abbrev P_need_runsX : List Str := ["kinds", "order", "runs"]
def BadRun (ks : List Str) (o : Ord) (rs : List (List Pr)) (n : Nat) : Prop :=
  n < rs.length ∧ n ≤ 40 ∧ (40 ≤ n ∨ isRunB ks o (rs.getD n []) = false ∨ ¬ ((rs.take (n + 1)).flatten.map (·.1)).Nodup) ∧ ∀ i, i < n → isRunB ks o (rs.getD i []) = true ∧ ((rs.take (i + 1)).flatten.map (·.1)).Nodup
def sp_need_runsX (K : PySem.W.Frag) : Sp := fun vs H Q E => match vs with
  | [kv, ov, rv] => ∃ ks o rs lo lr, KindsAt H kv ks ∧ ks.length ≤ 4 ∧ ov = .ref lo ∧ Lst TurnAt H lo o ∧ (∀ t ∈ o, t.1 < ks.length) ∧ rv = .ref lr ∧ Lst RunV H lr rs ∧ rs.length ≤ 1000 ∧ (∀ r ∈ rs, r.length ≤ 1000 ∧ ∀ p ∈ r, RowSz p.2) ∧ rs.flatten.length ≤ 5000 ∧
    (∀ n d H1, BadRun ks o rs n → H1 d = none → Same H H1 → E (.ref (He.ga K "BadRuns")) (some d) (upd H1 d (.xd [(("number" : Str), .int ((n : Nat) : Int))]))) ∧
    (rs.length ≤ 40 → (∀ r ∈ rs, isRunB ks o r = true) → (rs.flatten.map (·.1)).Nodup → ∀ H', Same H H' → Q .non H')
  | _ => False
def t_need_runsX (K : PySem.W.Frag) (E : XK) : TS := (tSeq (tAsg tDNewK (gName 3))
  (tFor (iEnum K (tCons (tVar 2) tNil)) (gTup K 2 (gCons (gName 4) (gCons (gName 5) gNil))) 
     (tSeq (tIfS (tOr (tTest (tOpC xGe (tVar 4) (.int 40))) (tNot (tB (tCall (sp_is_run K) [] E (tCons (tVar 0) (tCons (tVar 1) (tCons (tVar 5) tNil))))))) (tRaiseX K "BadRuns" "number" E (tCons (tVar 4) tNil)) tNext)
     (tFor (iList K (tVar 5)) (gName 6) 
        (tSeq (tIfS (tB (tDIn (tOpC (rIxT K) (tVar 6) (.int 0)) (tVar 3))) (tRaiseX K "BadRuns" "number" E (tCons (tVar 4) tNil)) tNext)
        (sDPut (tVar 3) (tOpC (rIxT K) (tVar 6) (.int 0)) (tC (.bl true))))))))
theorem seen_some {ns : List Int} {n : Int} (h : n ∈ ns) : valV (seenK ns) (Sum.inl n) = some (.bl true) := by
  induction ns with
  | nil => exact nomatch h
  | cons m ns ih =>
    by_cases e : m = n
    · subst e
      show valV ((Sum.inl m, V.bl true) :: seenK ns) _ = _
      exact valV_pos rfl
    · show valV ((Sum.inl m, V.bl true) :: seenK ns) _ = _
      rw [valV_neg (by
        show ¬ (Sum.inl m : Key) = Sum.inl n
        intro z
        injection z with z
        exact e z)]
      exact ih ((List.mem_cons.mp h).resolve_left fun z => e z.symm)
theorem pure_need_runsX {K : PySem.W.Frag} : ∀ vs H Q E, sp_need_runsX K vs H Q E → t_need_runsX K E { nx := fun _ H' => Q .non H', rt := Q } (start N_need_runsX vs) H := by
  intro vs H Q E h
  match vs, h with
  | [kv, ov, rv], h =>
    obtain ⟨ks, o, rs, lo, lr, hk, hkl, rfl, Lo, hcol, rfl, Lr, hrl, good, hlen, bad, k⟩ := h
    obtain ⟨xv, ex, px⟩ := id Lr
    have lx := px.length
    refine fun d hd => ?_
    have s0 : Same H (upd H d (.dK [])) := Rs.Same.new hd
    refine ⟨_, rfl, _, _, rfl, SqL.of (s0 _ _ ex), ?_⟩
    refine for_it (walk_enum (K := K) (a := lr) (xs := xv)) (fun i σ H' => ∃ x4 x5 x6, σ = [some kv, some (.ref lo), some (.ref lr), some (.ref d), x4, x5, x6] ∧ H' d = some (.dK (seenK ((rs.take i).flatten.map (·.1)))) ∧ Same H H' ∧ i ≤ 40 ∧ ∀ j, j < i → isRunB ks o (rs.getD j []) = true ∧ ((rs.take (j + 1)).flatten.map (·.1)).Nodup)
      ⟨none, none, none, rfl, upd_same, s0, Nat.zero_le _, fun j hj => (Nat.not_lt_zero _ hj).elim⟩ ?_ ?_ ?_
    · rintro i σ H' _ ⟨_, _, _, _, _, s, _⟩
      exact SqL.of (s _ _ ex)
    · rintro i x σ H' H2 hi ⟨x4, x5, x6, rfl, hd1, s, i40, pre⟩ ⟨T, x1, w, rfl, hT, rfl, hx1, hw⟩
      cases hx1
      obtain ⟨r, hr, l, rfl, Lr'⟩ := P2.get px hw
      have rm := List.mem_of_getElem? hr
      have hil := (List.getElem?_eq_some_iff.mp hr).1
      have rD : rs.getD i [] = r := by rw [List.getD_eq_getElem?_getD, hr]; rfl
      have s2 := s.trans (Rs.Same.new (o := .tup [.int (i : Nat), .ref l]) hT)
      have hd2 := un (u := .tup [.int (i : Nat), .ref l]) hd1 hT
      refine ⟨T, _, rfl, SqT.of upd_same, rfl, _, _, rfl, _, _, rfl, rfl, ?_⟩
      refine ⟨_, rfl, _, _, rfl, rfl, _, rfl, ?_⟩
      by_cases h40 : (40 : Int) ≤ ((i : Nat) : Int)
      · rw [decide_eq_true h40]
        exact ⟨_, rfl, _, rfl, fun dd hdd => bad i dd _ ⟨hil, i40, .inl (by omega), pre⟩ hdd s2⟩
      rw [decide_eq_false h40]
      have st := TupLe.same s2
      have fl := flat_len (rs := rs) (i + 1)
      rw [take_flat hr, List.length_append] at fl
      have gr0 := good r rm
      refine ⟨_, rfl, _, rfl, _, rfl, ks, o, r, lo, l, hk.mono st, by omega, rfl, Lo.same TurnAt.st s2, hcol, rfl, Lr'.same PairAt.st s2, gr0.2, gr0.1, fun H3 s3 => ⟨_, rfl, ?_⟩⟩
      have s03 := s2.trans s3
      cases gr : isRunB ks o r with
      | false => exact ⟨_, rfl, _, rfl, fun dd hdd => bad i dd _ ⟨hil, i40, .inr (.inl (by rw [rD]; exact gr)), pre⟩ hdd s03⟩
      | true =>
      have hd3 := s3 _ _ hd2
      obtain ⟨rv, er, pr⟩ := Lr'
      have lrv := pr.length
      have pren : ((rs.take i).flatten.map (·.1)).Nodup := by
        cases i with
        | zero => simp
        | succ j => exact (pre j (Nat.lt_succ_self j)).2
      refine ⟨_, rfl, l, rfl, ⟨_, SqL.of (s03 _ _ er)⟩, ?_⟩
      refine for_list (K := K) (a := l) (xs := rv) (fun j σ H' => ∃ x6, σ = [some kv, some (.ref lo), some (.ref lr), some (.ref d), some (.int (i : Nat)), some (.ref l), x6] ∧ H' d = some (.dK (seenK (((rs.take i).flatten ++ r.take j).map (·.1)))) ∧ Same H H' ∧ (((rs.take i).flatten ++ r.take j).map (·.1)).Nodup)
        ⟨_, rfl, by rw [List.take_zero, List.append_nil]; exact hd3, s03, by rw [List.take_zero, List.append_nil]; exact pren⟩ ?_ ?_ ?_
      · rintro j σ H' _ ⟨_, _, _, s, _⟩
        exact SqL.of (s _ _ er)
      · rintro j v σ H4 hj ⟨x6, rfl, hd4, s4, nd4⟩
        obtain ⟨q, hq, w, hvq, hw⟩ := P2.get pr hj
        have hvq4 := hvq.mono (TupLe.same s4)
        have e1 : ((rs.take i).flatten ++ r.take (j + 1)).map (·.1) = ((rs.take i).flatten ++ r.take j).map (·.1) ++ [q.1] := by
          rw [List.take_succ, hq, ← List.append_assoc, List.map_append (l₁ := (rs.take i).flatten ++ r.take j)]
          rfl
        refine ⟨_, rfl, ixT hvq4 (j := 0) rfl rfl ⟨_, rfl, d, _, rfl, DGet.k (k := Sum.inl q.1) hd4, _, rfl, ?_⟩⟩
        by_cases nin : q.1 ∈ ((rs.take i).flatten ++ r.take j).map (·.1)
        · rw [seen_some nin]
          refine ⟨_, rfl, _, rfl, fun dd hdd => bad i dd _ ⟨hil, i40, .inr (.inr fun z => ?_), pre⟩ hdd s4⟩
          rw [take_flat hr, ← List.take_append_drop (j + 1) r, ← List.append_assoc, List.map_append, e1] at z
          have z2 := (List.nodup_append.mp z).1
          exact (List.nodup_append.mp z2).2.2 _ nin q.1 (by simp) rfl
        rw [seen_none nin]
        refine ⟨_, rfl, _, rfl, ixT hvq4 (j := 0) rfl rfl ⟨d, _, rfl, DPut.k (k := Sum.inl q.1) hd4 (szlt (by
          unfold seenK
          rw [List.length_map, List.length_map, List.length_append, List.length_take]
          omega)), ?_⟩⟩
        refine ⟨_, rfl, ?_, Rs.Same.mut s4 hd, ?_⟩
        · rw [upd_same, putK_new _ (seen_none nin), e1]
          unfold seenK
          rw [List.map_append (f := fun n => ((Sum.inl n : Key), V.bl true))]
          rfl
        · rw [e1]
          refine List.nodup_append.mpr ⟨nd4, by simp, fun a ha b hb z => ?_⟩
          rw [List.mem_singleton] at hb
          rw [z, hb] at ha
          exact nin ha
      · rintro σ H4 ⟨x6, rfl, hd4, s4, nd4⟩
        rw [List.take_of_length_le (show r.length ≤ rv.length by omega), ← take_flat hr] at hd4 nd4
        refine ⟨_, _, _, rfl, hd4, s4, by omega, fun j hj => ?_⟩
        by_cases ej : j = i
        · subst ej
          exact ⟨by rw [rD]; exact gr, nd4⟩
        · exact pre j (by omega)
    · rintro σ H' ⟨x4, x5, x6, rfl, _, s, i40, pre⟩
      refine k (by omega) (fun r hr => ?_) ?_ _ s
      · obtain ⟨j, hj⟩ := List.mem_iff_getElem?.mp hr
        have jl := (List.getElem?_eq_some_iff.mp hj).1
        have := (pre j (by omega)).1
        rw [List.getD_eq_getElem?_getD, hj] at this
        exact this
      · cases hn : rs.length with
        | zero =>
          rw [List.eq_nil_of_length_eq_zero hn]
          simp
        | succ n =>
          have := (pre n (by omega)).2
          rw [List.take_of_length_le (by omega)] at this
          exact this
end Rs

namespace Rs
open PySem PySem.Spec PyProof.Rows L2
open LamX
abbrev N_mergedX : List Str := ["kinds", "order", "runs", "places", "tree", "found", "source", "run"]
abbrev P_mergedX : List Str := ["kinds", "order", "runs"]
def sp_mergedX (K : PySem.W.Frag) : Sp := fun vs H Q E => match vs with
  | [kv, ov, rv] => ∃ ks o rs lo lr, KindsAt H kv ks ∧ GoodKinds ks ∧ ov = .ref lo ∧ Lst TurnAt H lo o ∧ GoodOrd ks o ∧ o.length ≤ 1000 ∧ rv = .ref lr ∧ Lst RunV H lr rs ∧ rs.length ≤ 1000 ∧ (∀ r ∈ rs, r.length ≤ 1000 ∧ ∀ p ∈ r, RowSz p.2) ∧ rs.flatten.length ≤ 1000 ∧
    (∀ n d H1, BadRun ks o rs n → H1 d = none → Same H H1 → E (.ref (He.ga K "BadRuns")) (some d) (upd H1 d (.xd [(("number" : Str), .int ((n : Nat) : Int))]))) ∧
    (rs.length ≤ 40 → (∀ r ∈ rs, isRunB ks o r = true) → (rs.flatten.map (·.1)).Nodup →
    ∀ (t f : Addr) (H' : Hp) (e : Nat) (looks : Int) (ys : List Pr), H t = none → H f = none → H' t = some (.tup [.ref f, .int looks]) → Lst PairAt H' f ys → Up o ys → ys.Perm rs.flatten → 0 ≤ looks → looks ≤ ((rs.length - 1 : Nat) : Int) + (e : Int) * (rs.flatten.length : Int) →
      ((rs.filter fun r => !r.isEmpty).length : Int) - 1 ≤ looks → rs.length ≤ 2 ^ e → (e = 0 ∨ 2 ^ e < 2 * rs.length) → Same H H' → Q (.ref t) H')
  | _ => False
def t_mergedX (K : PySem.W.Frag) (E : XK) : TS := (tSeq (tDrop (tCall (sp_need_kinds K) [] E (tCons (tVar 0) tNil)))
  (tSeq (tDrop (tCall (sp_need_order K) [] E (tCons (tVar 0) (tCons (tVar 1) tNil))))
   (tSeq (tDrop (tCall (sp_need_runsX K) [] E (tCons (tVar 0) (tCons (tVar 1) (tCons (tVar 2) tNil)))))
    (tSeq (tAsg (tLc (iList K (tVar 2)) (gName 7) tYes (tC (.int 0)) [7]) (gName 3))
     (tSeq (tAsg (tMake (He.ga K "Tree") (sp_Tree___init__ K) [] E (tCons (tCB1 (xList K) (tVar 1)) (tCons (tLc (iList K (tVar 2)) (gName 7) tYes (tIf (tTest (tOp (xNeE K) (tVar 7) (tLst tNil))) (tOpC (rIxL K) (tVar 7) (.int 0)) (tC .non)) [7]) tNil))) (gName 4))
      (tSeq (tAsg (tLst tNil) (gName 5))
       (tSeq (tAsg (tIf (tTest (tOp (xNeE K) (tVar 2) (tLst tNil))) (tMeth (He.ga K "Tree") "first" (sp_Tree_first K) [] E (tVar 4) tNil) (tC .non)) (gName 6))
        (tSeq (tWhile (tTest (tOpC rNotN (tVar 6) .non)) 
           (tSeq (tDrop (tBM K "list" rAppend (tVar 5) (tCons (tOp (rIxL K) (tFl K (tVar 4) "heads") (tVar 6)) tNil)))
           (tSeq (tAugL K (tVar 3) (tVar 6) (tC (.int 1)))
            (tSeq (tAsg (tOp (rIxL K) (tVar 2) (tVar 6)) (gName 7))
             (tSeq (tDrop (tMeth (He.ga K "Tree") "turn" (sp_Tree_turn K) [] E (tVar 4) (tCons (tVar 6) (tCons (tIf (tTest (tOp xLt (tOp (rIxL K) (tVar 3) (tVar 6)) (tCB1 (xLen K) (tVar 7)))) (tOp (rIxL K) (tVar 7) (tOp (rIxL K) (tVar 3) (tVar 6))) (tC .non)) tNil))))
              (tAsg (tMeth (He.ga K "Tree") "first" (sp_Tree_first K) [] E (tVar 4) tNil) (gName 6)))))))
         (tRet (tTup (tCons (tVar 5) (tCons (tFl K (tVar 4) "looks") tNil))))))))))))
theorem cnt_low {o : Ord} {hs : Hds} {bs : List (Option Nat)} {e : Nat} (T : TreeOk o hs bs (2 ^ e) fun _ => False) (hle : hs.length ≤ 2 ^ e) : (hs.filter fun z => z.isSome).length ≤ cnt bs (2 ^ e) := by
  have key : ∀ n j, n = 2 ^ e - j → j ≤ 2 ^ e → ((hs.drop j).filter fun z => z.isSome).length ≤ cnt bs (2 ^ e + j) := by
    intro n
    induction n with
    | zero =>
      intro j e1 e2
      rw [List.drop_of_length_le (by omega)]
      exact Nat.zero_le _
    | succ n ih =>
      intro j e1 e2
      have := ih (j + 1) (by omega) (by omega)
      rw [cnt_step (by rw [T.len]; omega), T.leaf j (by omega), show 2 ^ e + j + 1 = 2 ^ e + (j + 1) by omega]
      by_cases hj : j < hs.length
      · rw [List.drop_eq_getElem_cons hj, List.filter_cons]
        have eh : hd hs j = hs[j] := by
          unfold hd
          rw [List.getD_eq_getElem?_getD, List.getElem?_eq_getElem hj]
          rfl
        unfold leafOf
        rw [eh]
        cases q : hs[j] with
        | none =>
          simp only [Option.isSome_none, Bool.false_eq_true, if_false]
          omega
        | some z =>
          simp only [Option.isSome_some, if_true, List.length_cons]
          omega
      · rw [List.drop_of_length_le (by omega)]
        exact Nat.zero_le _
  exact key _ 0 rfl (Nat.zero_le _)
theorem heads_some {rs : List (List Pr)} : ((rs.map List.head?).filter fun z => z.isSome).length = (rs.filter fun r => !r.isEmpty).length := by
  induction rs with
  | nil => rfl
  | cons r rs ih =>
    rw [List.map_cons, List.filter_cons, List.filter_cons]
    cases r with
    | nil => simpa using ih
    | cons p r => simpa using ih
theorem pure_mergedX {K : PySem.W.Frag} (T : TxtTree K) : ∀ vs H Q E, sp_mergedX K vs H Q E → t_mergedX K E { nx := fun _ H' => Q .non H', rt := Q } (start N_mergedX vs) H := by
  intro vs H Q E h
  match vs, h with
  | [kv, ov, rv], h =>
    obtain ⟨ks, o, rs, lo, lr, hk, gk, rfl, Lo, go, hol, rfl, Lr, hr9, sizes, hlen, bad, k⟩ := h
    have hcol := go.col
    refine ⟨_, rfl, ks, hk, gk, fun H1 s1 => ?_⟩
    refine ⟨_, rfl, _, rfl, ks, o, hk.mono (TupLe.same s1), ⟨lo, rfl, Lo.same TurnAt.st s1⟩, go, hol, fun H2 s2 => ?_⟩
    have s02 := s1.trans s2
    refine ⟨_, rfl, _, rfl, _, rfl, ks, o, rs, lo, lr, hk.mono (TupLe.same s02), gk.le, rfl, Lo.same TurnAt.st s02, hcol, rfl, runs_same s02 Lr, hr9, sizes, by omega, fun n dd H9 hb hd s9 => bad n dd H9 hb hd (s02.trans s9), fun hrl good nd H3 s3 => ?_⟩
    have s03 := s02.trans s3
    have k := k hrl good nd
    clear s1 s2 s3 s02
    obtain ⟨xv, ex, px⟩ := id Lr
    have lx := px.length
    -- places
    refine ⟨_, rfl, lr, rfl, ⟨_, SqL.of (s03 _ _ ex)⟩, fun lp hlp => ?_⟩
    refine lc_list (K := K) (a := lr) (xs := xv) (fun j H' => H' lp = some (.lst ((List.replicate j 0).map fun (n : Nat) => V.int (n : Int))) ∧ Same H3 H') ⟨upd_same, Rs.Same.new hlp⟩ ?_ ?_ ?_
    · rintro j H' _ ⟨_, s⟩
      exact SqL.of ((s03.trans s) _ _ ex)
    · rintro j v H' hj ⟨hd, s⟩
      have := (List.getElem?_eq_some_iff.mp hj).1
      refine ⟨rfl, lc_yes ⟨_, hd, szlt (by simp; omega), ?_, Rs.Same.mut s hlp⟩⟩
      rw [upd_same, List.replicate_succ', List.map_append]
      rfl
    rintro H4 ⟨ep4, s4⟩
    have s04 := s03.trans s4
    have hlp0 : H lp = none := s03.free hlp
    clear s03 s4 hlp
    -- the tree
    obtain ⟨ov, eo, po⟩ := id Lo
    refine ⟨_, rfl, lo, _, rfl, .inl (SqL.of (s04 _ _ eo)), fun lo2 hlo2 => ?_⟩
    have s45 : Same H4 (upd H4 lo2 (.lst ov)) := Rs.Same.new hlo2
    have eo5 : upd H4 lo2 (.lst ov) lo2 = some (.lst ov) := upd_same
    have nlp1 : lp ≠ lo2 := ne_of_none ep4 hlo2
    have hlo20 : H lo2 = none := s04.free hlo2
    have ep5 := s45 _ _ ep4
    have s05 := s04.trans s45
    generalize upd H4 lo2 (.lst ov) = H5 at s45 eo5 ep5 s05 ⊢
    refine ⟨_, rfl, lr, rfl, ⟨_, SqL.of (s05 _ _ ex)⟩, fun lq hlq => ?_⟩
    refine lc_list (K := K) (a := lr) (xs := xv) (fun j H' => Lst OptAt H' lq ((rs.take j).map List.head?) ∧ Same H5 H') ⟨⟨[], upd_same, .nil⟩, Rs.Same.new hlq⟩ ?_ ?_ ?_
    · rintro j H' _ ⟨_, s⟩
      exact SqL.of ((s05.trans s) _ _ ex)
    · rintro j v H' hj ⟨⟨av, ea, pa⟩, s⟩
      obtain ⟨r, hr, l, rfl, rv, er, pr⟩ := P2.get px hj
      have la := pa.length
      have hjl := (List.getElem?_eq_some_iff.mp hr).1
      rw [List.length_map, List.length_take] at la
      have s0 := s05.trans s
      have er' := s0 _ _ er
      have put : ∀ (y : V) (H6 : Hp), Same H' H6 → OptAt H6 y r.head? → ∃ acc, H6 lq = some (.lst acc) ∧ acc.length < sizeLine ∧ (Lst OptAt (upd H6 lq (.lst (acc ++ [y]))) lq ((rs.take (j + 1)).map List.head?) ∧ Same H5 (upd H6 lq (.lst (acc ++ [y])))) := fun y H6 s6 hy => by
        have e6 := s6 _ _ ea
        have t6 : TupLe H6 (upd H6 lq (.lst (av ++ [y]))) := (TupLe.refl H6).list e6
        refine ⟨av, e6, szlt (by omega), ⟨_, upd_same, ?_⟩, Rs.Same.mut (s.trans s6) hlq⟩
        rw [List.take_succ, hr, List.map_append]
        exact P2.app (Paired.tl OptAt.st ((TupLe.same s6).trans (t6)) pa) (P2.one (OptAt.st _ _ _ _ t6 hy))
      refine ⟨rfl, lc_yes ?_⟩
      refine ⟨_, rfl, sz0, fun e he => neE er' he (b := !rv.isEmpty) rfl ⟨_, rfl, ?_⟩⟩
      have se : Same H' (upd H' e (.lst [])) := Rs.Same.new he
      cases rv with
      | nil =>
        cases pr
        exact put .non _ se rfl
      | cons v0 rv =>
        cases pr with
        | cons q1 q2 =>
          exact ⟨_, rfl, ixL (se _ _ er') (j := 0) rfl rfl (put v0 _ se (PairAt.st _ _ _ _ ((TupLe.same s0).trans (TupLe.same se)) q1))⟩
    rintro H6 ⟨Lq, s6⟩
    rw [List.take_of_length_le (by omega)] at Lq
    have s06 := s05.trans s6
    have ep6 := s6 _ _ ep5
    have eo6 := s6 _ _ eo5
    have hlq0 : H lq = none := s05.free hlq
    clear s45 s6 s05 ep5 eo5 ep4 s04
    refine fun p dx hp hdx ndx => ?_
    have s7 : Same H6 (upd (upd H6 dx (.own p)) p (.ins (He.ga K "Tree") dx [])) := (Rs.Same.new hdx).trans (Rs.Same.new (by rw [upd_ne ndx.symm]; exact hp))
    have ep7 : upd (upd H6 dx (.own p)) p (.ins (He.ga K "Tree") dx []) p = some (.ins (He.ga K "Tree") dx []) := upd_same
    have s07 := s06.trans s7
    have hp0 : H p = none := s06.free hp
    have npl : lp ≠ p := ne_of_none ep6 hp
    have epl7 := s7 _ _ ep6
    have eo7 := s7 _ _ eo6
    have Lq7 := Lq.same OptAt.st s7
    generalize upd (upd H6 dx (.own p)) p (.ins (He.ga K "Tree") dx []) = H7 at s7 ep7 s07 epl7 eo7 Lq7 ⊢
    have fin : Fine ks rs.flatten := ⟨fun q hq => by
      obtain ⟨r, hr, hqr⟩ := List.mem_flatten.mp hq
      exact isRunB_row (good r hr) q hqr, nd⟩
    have hok : ∀ (ts : List (List Pr)), (∀ q ∈ ts.flatten, isRow ks q.2 = true) → ∀ s q, hd (ts.map List.head?) s = some q → isRow ks q.2 = true := fun ts hts s q hq => by
      obtain ⟨r, hr⟩ := hd_heads.mp hq
      exact hts q (List.mem_flatten.mpr ⟨_, List.mem_of_getElem? hr, List.mem_cons_self ..⟩)
    refine ⟨p, dx, lo2, o, lq, _, ks, rfl, rfl, rfl, ep7, ⟨ov, eo7, Paired.tl TurnAt.st (TupLe.same s07) po⟩, Lq7, by rw [List.length_map]; omega, hcol, hok rs fin.row, fun lh lb bs e looks H8 S8 T8 hle he hlk hlh hlb k8 => ⟨rfl, ?_⟩⟩
    rw [List.length_map] at hle he
    have s08 : Same H H8 := k8.fresh s07 fun x hx => by rw [List.mem_singleton] at hx; rw [hx]; exact hp0
    have epl8 := k8 _ _ epl7 (ne1 npl)
    have n1 : lp ≠ lh := ne_of_none epl7 hlh
    have n2 : lp ≠ lb := ne_of_none epl7 hlb
    have hlh0 : H lh = none := s07.free hlh
    have hlb0 : H lb = none := s07.free hlb
    clear k8 epl7 eo7 Lq7 ep7 s07 s7 eo6 ep6 s06 Lq hp hdx ndx hlh hlb
    -- found
    refine ⟨sz0, fun lf hlf => ?_⟩
    have s9 : Same H8 (upd H8 lf (.lst [])) := Rs.Same.new hlf
    have ef9 : upd H8 lf (.lst []) lf = some (.lst []) := upd_same
    have S9 := S8.same s9
    have epl9 := s9 _ _ epl8
    have s09 := s08.trans s9
    have hlf0 : H lf = none := s08.free hlf
    have f1 : lp ≠ lf := ne_of_none epl8 hlf
    have f2 : p ≠ lf := by obtain ⟨d, q⟩ := S8.ob; exact ne_of_none q hlf
    have f3 : lo2 ≠ lf := by obtain ⟨_, q, _⟩ := S8.ord; exact ne_of_none q hlf
    have f4 : lh ≠ lf := by obtain ⟨_, q, _⟩ := S8.heads; exact ne_of_none q hlf
    have f5 : lb ≠ lf := by obtain ⟨_, q, _⟩ := S8.best; exact ne_of_none q hlf
    generalize upd H8 lf (.lst []) = H9 at s9 ef9 S9 epl9 s09 ⊢
    have e1 : 1 ≤ 2 ^ e := Nat.one_le_two_pow
    -- the loop
    have loop : ∀ (v6 : V) (H10 : Hp), Same H9 H10 → NatAt H10 v6 (bst bs 1) → (tSeq (tWhile (tTest (tOpC rNotN (tVar 6) .non)) 
           (tSeq (tDrop (tBM K "list" rAppend (tVar 5) (tCons (tOp (rIxL K) (tFl K (tVar 4) "heads") (tVar 6)) tNil)))
           (tSeq (tAugL K (tVar 3) (tVar 6) (tC (.int 1)))
            (tSeq (tAsg (tOp (rIxL K) (tVar 2) (tVar 6)) (gName 7))
             (tSeq (tDrop (tMeth (He.ga K "Tree") "turn" (sp_Tree_turn K) [] E (tVar 4) (tCons (tVar 6) (tCons (tIf (tTest (tOp xLt (tOp (rIxL K) (tVar 3) (tVar 6)) (tCB1 (xLen K) (tVar 7)))) (tOp (rIxL K) (tVar 7) (tOp (rIxL K) (tVar 3) (tVar 6))) (tC .non)) tNil))))
              (tAsg (tMeth (He.ga K "Tree") "first" (sp_Tree_first K) [] E (tVar 4) tNil) (gName 6)))))))
         (tRet (tTup (tCons (tVar 5) (tCons (tFl K (tVar 4) "looks") tNil))))) { nx := fun _ H' => Q .non H', rt := Q } [some kv, some (.ref lo), some (.ref lr), some (.ref lp), some (.ref p), some (.ref lf), some v6, none] H10 := fun v6 H10 s10 hv6 => by
      refine ⟨fun m => MgInv K H ks o rs kv lo lr lp p lo2 lh lb lf e looks fun n => m = n,
        ⟨_, rs, List.replicate xv.length 0, [], bs, looks, v6, none, rfl, rfl, s09.trans s10, s10 _ _ epl9, S9.same s10, T8, hv6, ⟨[], s10 _ _ ef9, .nil⟩, ⟨by rw [List.nil_append]; exact fin, .nil, fun t ht => isRunB_up hcol (good t ht), fun x hx => by simp at hx⟩, by rw [List.nil_append], rfl, by rw [List.length_replicate]; omega, fun s => by
          have : (List.replicate xv.length 0).getD s 0 = 0 := by
            rw [List.getD_eq_getElem?_getD, List.getElem?_replicate]
            split <;> rfl
          rw [this, List.drop_zero], Int.le_refl _, by simp⟩, ?_⟩
      rintro m σ H11 ⟨ts, pl, found, bs1, lks, v6, x7, rfl, rfl, s11, ep11, S11, T11, hv11, Lf11, M11, pm11, tl11, pl11, rel, lk1, lk2⟩
      have rows11 : ∀ q ∈ ts.flatten, isRow ks q.2 = true := fun q hq => M11.fine.row q (List.mem_append_right _ hq)
      have top := tree_top hcol (hok ts rows11) T11 (by rw [List.length_map, tl11]; exact hle)
      have plen := pm11.length_eq
      rw [List.length_append] at plen
      refine ⟨_, rfl, rfl, _, rfl, ?_⟩
      cases hb1 : bst bs1 1 with
      | none =>
        rw [hb1] at hv11
        have ev : v6 = .non := hv11
        subst ev
        have en := all_none (top.1 hb1)
        rw [en, List.append_nil] at pm11
        refine ⟨_, rfl, _, rfl, g_Tree_looks T S11.ob ⟨szle (by show 2 ≤ 100000; decide), fun t ht => ?_⟩⟩
        have s12 : Same H11 (upd H11 t (.tup [.ref lf, .int lks])) := Rs.Same.new ht
        have cl := cnt_leaf T8 (2 ^ e) 0 rfl (Nat.zero_le _)
        rw [Nat.add_zero, List.length_map, Nat.sub_zero] at cl
        have c0' : 0 ≤ looks ∧ looks ≤ ((rs.length - 1 : Nat) : Int) := by
          rw [hlk]
          cases hq : bst bs 1 with
          | none =>
            have z := (tree_top hcol (hok rs fin.row) T8 (by rw [List.length_map]; exact hle)).1 hq
            have en := all_none z
            have : cnt bs (2 ^ e) = 0 := by
              have : ∀ n j, n = 2 ^ e - j → j ≤ 2 ^ e → cnt bs (2 ^ e + j) = 0 := by
                intro n
                induction n with
                | zero =>
                  intro j e1 e2
                  have : j = 2 ^ e := by omega
                  subst this
                  unfold cnt
                  rw [List.drop_of_length_le (by rw [T8.len]; omega)]
                  rfl
                | succ n ih =>
                  intro j e1 e2
                  rw [cnt_step (by rw [T8.len]; omega), T8.leaf j (by omega)]
                  have : leafOf (rs.map List.head?) j = none := by unfold leafOf; rw [z j]; rfl
                  rw [this, show 2 ^ e + j + 1 = 2 ^ e + (j + 1) by omega, ih (j + 1) (by omega) (by omega)]
                  rfl
              exact this _ 0 rfl (Nat.zero_le _)
            rw [this]
            simp
          | some t =>
            have a := T8.len
            have c1 : 1 ≤ cnt bs (2 ^ e) := by
              obtain ⟨h1, h2⟩ := tree_some T8 _ 1 rfl (Nat.le_refl _) (by omega) t hq
              have key : ∀ n j, n = t - j → j ≤ t → 1 ≤ cnt bs (2 ^ e + j) := by
                intro n
                induction n with
                | zero =>
                  intro j e1 e2
                  have : j = t := by omega
                  subst this
                  rw [cnt_step (by rw [T8.len]; omega), T8.leaf j h2]
                  unfold leafOf
                  rw [if_pos h1]
                  simp only [Option.isSome_some, if_true]
                  omega
                | succ n ih =>
                  intro j e1 e2
                  have := ih (j + 1) (by omega) (by omega)
                  rw [cnt_step (by rw [T8.len]; omega), show 2 ^ e + j + 1 = 2 ^ e + (j + 1) by omega]
                  omega
              exact key _ 0 rfl (Nat.zero_le _)
            simp only [Option.isSome_some, if_true]
            omega
        have fl : found.length = rs.flatten.length := by rw [en] at plen; simpa using plen
        rw [fl] at lk2
        have lowc := cnt_low T8 (by rw [List.length_map]; exact hle)
        rw [heads_some] at lowc
        exact k t lf _ e lks found (s11.free ht) hlf0 upd_same (Lf11.same PairAt.st s12) M11.up pm11 (by omega) (by omega) (by
          have : looks ≥ (cnt bs (2 ^ e) : Int) - 1 := by
            rw [hlk]
            split <;> omega
          omega) hle he (s11.trans s12)
      | some s =>
        rw [hb1] at hv11
        have ev : v6 = .int ((s : Nat) : Int) := hv11
        subst ev
        obtain ⟨q, hq, low⟩ := top.2 s hb1
        obtain ⟨t', ht'⟩ := hd_heads.mp hq
        have sl : s < rs.length := by rw [← tl11]; exact (List.getElem?_eq_some_iff.mp ht').1
        refine ⟨MgInv K H ks o rs kv lo lr lp p lo2 lh lb lf e looks fun n => n < ts.flatten.length, ?_, ?_⟩
        · rintro σ H' ⟨ts', pl, found, bs, lks, v6, x7, a1, a2⟩
          exact ⟨_, a1, ts', pl, found, bs, lks, v6, x7, rfl, a2⟩
        obtain ⟨hv, eh, ph⟩ := S11.heads
        obtain ⟨vq, gq, aq⟩ := P2.get' ph (i := s) (b := some q) (by rw [List.getElem?_map, ht']; rfl)
        have aq : PairAt H11 vq q := aq
        obtain ⟨fv, ef, pf⟩ := Lf11
        have lfl := pf.length
        -- found.append
        refine ⟨_, rfl, .inl ⟨rfl, _, SqL.of ef⟩, _, rfl, g_Tree_heads T S11.ob ⟨_, rfl, ixL eh rfl gq ⟨_, _, _, rfl, rfl, ef, szlt (by omega), ?_⟩⟩⟩
        have t12 : TupLe H11 (upd H11 lf (.lst (fv ++ [vq]))) := (TupLe.refl H11).list ef
        have k12 : But [lf] H11 (upd H11 lf (.lst (fv ++ [vq]))) := (But.refl _ H11).put (by simp)
        have S12 := S11.keep t12 (by
          rintro b (rfl | rfl | rfl | rfl) u hu
          · exact up hu f2
          · exact up hu f3
          · exact up hu f4
          · exact up hu f5)
        have Lf12 : Lst PairAt (upd H11 lf (.lst (fv ++ [vq]))) lf (found ++ [q]) := ⟨_, upd_same, P2.app (Paired.tl PairAt.st t12 pf) (P2.one (PairAt.st _ _ _ _ t12 aq))⟩
        have ep12 := up (u := .lst (fv ++ [vq])) ep11 f1
        have s12 : Same H (upd H11 lf (.lst (fv ++ [vq]))) := k12.fresh s11 fun x hx => by rw [List.mem_singleton] at hx; rw [hx]; exact hlf0
        generalize upd H11 lf (.lst (fv ++ [vq])) = H12 at t12 k12 S12 Lf12 ep12 s12 ⊢
        clear ef pf eh ph gq aq lfl
        -- places[source] += 1
        have pls : pl[s]? = some (pl.getD s 0) := by rw [List.getD_eq_getElem?_getD, List.getElem?_eq_getElem (by omega)]; rfl
        refine ⟨_, rfl, _, rfl, lp, _, s, _, rfl, rfl, SqL.of ep12, by rw [List.getElem?_map, pls]; rfl, _, _, rfl, rfl, lp, _, _, s, rfl, rfl, ep12, ixN_nat (by rw [List.length_map]; omega), ?_⟩
        have em : (pl.map fun (n : Nat) => V.int (n : Int)).set s (.int (((pl.getD s 0 : Nat) : Int) + 1)) = (pl.set s (pl.getD s 0 + 1)).map fun (n : Nat) => V.int (n : Int) := by
          rw [List.map_set]
          rfl
        dsimp only
        rw [em]
        have k13 : But [lp] H12 (upd H12 lp (.lst ((pl.set s (pl.getD s 0 + 1)).map fun (n : Nat) => V.int (n : Int)))) := (But.refl _ H12).put (by simp)
        have t13 : TupLe H12 (upd H12 lp (.lst ((pl.set s (pl.getD s 0 + 1)).map fun (n : Nat) => V.int (n : Int)))) := (TupLe.refl H12).list ep12
        have S13 := S12.keep t13 (by
          rintro b (rfl | rfl | rfl | rfl) u hu
          · exact up hu npl.symm
          · exact up hu nlp1.symm
          · exact up hu n1.symm
          · exact up hu n2.symm)
        have Lf13 := Lf12.keep PairAt.st t13 fun u hu => up hu f1.symm
        have ep13 : upd H12 lp (.lst ((pl.set s (pl.getD s 0 + 1)).map fun (n : Nat) => V.int (n : Int))) lp = some _ := upd_same
        have s13 : Same H (upd H12 lp (.lst ((pl.set s (pl.getD s 0 + 1)).map fun (n : Nat) => V.int (n : Int)))) := k13.fresh s12 fun x hx => by rw [List.mem_singleton] at hx; rw [hx]; exact hlp0
        generalize upd H12 lp (.lst ((pl.set s (pl.getD s 0 + 1)).map fun (n : Nat) => V.int (n : Int))) = H13 at k13 t13 S13 Lf13 ep13 s13 ⊢
        clear S12 Lf12 ep12 em k12 t12 S11 ep11
        -- run
        obtain ⟨rv, hrv, l, rfl, wv, ew, pw⟩ := P2.get' px (List.getElem?_eq_getElem sl)
        have lw := pw.length
        have rsD : rs.getD s [] = rs[s] := getD_lt sl
        have tsD : ts.getD s [] = q :: t' := by rw [List.getD_eq_getElem?_getD, ht']; rfl
        have rels := rel s
        rw [tsD, rsD] at rels
        refine ⟨_, rfl, _, rfl, ixL (s13 _ _ ex) rfl hrv ?_⟩
        obtain ⟨dx, hob⟩ := S13.ob
        have plx : (pl.set s (pl.getD s 0 + 1))[s]? = some (pl.getD s 0 + 1) := by rw [List.getElem?_set_self (by omega)]
        have plx' : ((pl.set s (pl.getD s 0 + 1)).map fun (n : Nat) => V.int (n : Int))[s]? = some (.int ((pl.getD s 0 + 1 : Nat) : Int)) := by rw [List.getElem?_map, plx]; rfl
        refine ⟨_, rfl, p, dx, _, rfl, hob, no_Tree_turn, _, rfl, _, rfl, _, rfl, ixL ep13 rfl plx' ⟨_, rfl, lenL (s13 _ _ ew) rfl ⟨_, _, rfl, rfl, _, rfl, ?_⟩⟩⟩
        have tl' : t' = rs[s].drop (pl.getD s 0 + 1) := by
          have : (q :: t').drop 1 = (rs[s].drop (pl.getD s 0)).drop 1 := by rw [rels]
          rw [List.drop_drop] at this
          simpa using this
        have M12 := M11.step hcol ht' low
        have rows12 : ∀ x ∈ (ts.set s t').flatten, isRow ks x.2 = true := fun x hx => M12.fine.row x (List.mem_append_right _ hx)
        have pm12 : ((found ++ [q]) ++ (ts.set s t').flatten).Perm rs.flatten := by
          rw [List.append_assoc]
          exact (List.Perm.append_left found (flat_set ht').symm).trans pm11
        have flt := (flat_set ht').length_eq
        rw [List.length_cons] at flt
        -- the tree turns
        have turn : ∀ (v : V), OptAt H13 v t'.head? → sp_Tree_turn K [.ref p, .int (s : Int), v] H13 (fun _ H' => (tAsg (tMeth (He.ga K "Tree") "first" (sp_Tree_first K) [] E (tVar 4) tNil) (gName 6)) { nx := MgInv K H ks o rs kv lo lr lp p lo2 lh lb lf e looks fun n => n < ts.flatten.length, rt := Q } [some kv, some (.ref lo), some (.ref lr), some (.ref lp), some (.ref p), some (.ref lf), some (.int (s : Int)), some (.ref l)] H') E := fun v hv => by
          refine ⟨p, lo2, lh, lb, o, _, bs1, e, lks, ks, s, t'.head?, rfl, rfl, hv, S13, T11, hcol, hok ts rows11, fun x hx => ?_, by rw [List.length_map]; omega, by rw [List.length_map]; omega, fun bs' lks' H14 S14 T14 q1 q2 k14 => ?_⟩
          · have : hd ((ts.set s t').map List.head?) s = some x := by
              rw [heads_set]
              unfold hd
              rw [getD_set _ (by rw [List.length_map]; omega), if_pos rfl]
              exact hx
            exact hok _ rows12 s x this
          rw [← heads_set] at S14 T14
          obtain ⟨dx4, hob4⟩ := S14.ob
          have t14 := S13.tup k14
          refine ⟨_, rfl, p, dx4, _, rfl, hob4, no_Tree_first, p, lo2, lh, lb, o, _, bs', 2 ^ e, lks', rfl, S14, T14.len, e1, fun v6 hv6 => ?_⟩
          refine ⟨ts.set s t', pl.set s (pl.getD s 0 + 1), found ++ [q], bs', lks', v6, _, by omega, rfl, k14.fresh s13 (all3 hp0 hlh0 hlb0), k14 _ _ ep13 (ne3 npl n1 n2), S14, T14, hv6, Lf13.keep PairAt.st t14 fun u hu => k14 _ _ hu (ne3 f2.symm f4.symm f5.symm), M12, pm12, by rw [List.length_set]; exact tl11, by rw [List.length_set]; exact pl11, fun j => ?_, by omega, ?_⟩
          · rw [getD_set _ (by omega), getD_set _ (by omega)]
            by_cases ej : j = s
            · rw [if_pos ej, if_pos ej, ej, rsD]
              exact tl'
            · rw [if_neg ej, if_neg ej]
              exact rel j
          · rw [List.length_append, List.length_singleton]
            have : (e : Int) * ((found.length + 1 : Nat) : Int) = (e : Int) * (found.length : Int) + e := by
              rw [Int.natCast_add, Int.mul_add]
              simp
            rw [this]
            omega
        by_cases hlt : (((pl.getD s 0 + 1 : Nat) : Int) < (wv.length : Int))
        · rw [decide_eq_true hlt]
          obtain ⟨w, hw, aw⟩ := P2.get' pw (List.getElem?_eq_getElem (by omega : pl.getD s 0 + 1 < rs[s].length))
          refine ⟨_, rfl, _, rfl, _, rfl, ixL ep13 rfl plx' (ixL (s13 _ _ ew) rfl hw (turn w ?_))⟩
          have : t'.head? = some (rs[s][pl.getD s 0 + 1]'(by omega)) := by
            rw [tl', List.head?_drop, List.getElem?_eq_getElem]
          rw [this]
          exact PairAt.st _ _ _ _ (TupLe.same s13) aw
        · rw [decide_eq_false hlt]
          refine turn .non ?_
          have : t'.head? = none := by
            rw [tl', List.head?_drop, List.getElem?_eq_none (by omega)]
          rw [this]
          rfl
    refine ⟨_, rfl, sz0, fun em hem => neE (s09 _ _ ex) hem (b := !xv.isEmpty) rfl ⟨_, rfl, ?_⟩⟩
    have s10 : Same H9 (upd H9 em (.lst [])) := Rs.Same.new hem
    cases hxv : xv with
    | nil =>
      refine loop .non _ s10 ?_
      have hr0 : rs = [] := List.eq_nil_of_length_eq_zero (by rw [← lx, hxv]; rfl)
      have tt := (tree_top hcol (hok rs fin.row) T8 (by rw [List.length_map]; exact hle)).2
      cases hq : bst bs 1 with
      | none => rfl
      | some t =>
        obtain ⟨z, hz, _⟩ := tt t hq
        rw [hr0] at hz
        simp [hd] at hz
    | cons v0 xv' =>
      have S10 := S9.same s10
      obtain ⟨dx4, hob4⟩ := S10.ob
      exact ⟨_, rfl, p, dx4, _, rfl, hob4, no_Tree_first, p, lo2, lh, lb, o, _, bs, 2 ^ e, looks, rfl, S10, T8.len, e1, fun v hv => loop v _ s10 hv⟩
end Rs

namespace Rs
open PySem PySem.Spec PyProof.Rows L2
open LamX
abbrev N_law_parts : List Str := ["_law_box", "_law_order_here", "_law_rows_here", "_law_most", "_law_found", "_law_step", "_law_k", "_law_run"]
abbrev P_law_parts : List Str := ["_law_box", "_law_order_here", "_law_rows_here", "_law_most"]
structure PartsOk (ks : List Str) (o : Ord) (rows : List Row) (rs : List (List Pr)) : Prop where
  up : ∀ r ∈ rs, Up o r
  row : ∀ p ∈ rs.flatten, isRow ks p.2 = true ∧ 0 ≤ p.1 ∧ p.1 ≤ 1000000000000
  nd : (rs.flatten.map (·.1)).Nodup
  len : rs.flatten.length = rows.length
def RunF (Z : List Addr) : Rel (List Pr) := fun H v y => ∃ g, v = .ref g ∧ g ∉ Z ∧ Lst PairAt H g y
def RunsF (Z : List Addr) (H : Hp) (l : Addr) (rs : List (List Pr)) : Prop := l ∉ Z ∧ ∃ vs, H l = some (.lst vs) ∧ Paired (RunF Z H) vs rs
theorem RunF.but {Z : List Addr} {H H' : Hp} {v : V} {y : List Pr} (h : RunF Z H v y) (t : TupLe H H') (k : But Z H H') : RunF Z H' v y :=
  let ⟨g, e, n, L⟩ := h
  ⟨g, e, n, L.keep PairAt.st t fun _ q => k g _ q n⟩
theorem RunsF.but {Z : List Addr} {H H' : Hp} {l : Addr} {rs : List (List Pr)} (h : RunsF Z H l rs) (t : TupLe H H') (k : But Z H H') : RunsF Z H' l rs :=
  let ⟨n, vs, e, p⟩ := h
  ⟨n, vs, k _ _ e n, P2.mono (fun _ _ q => q.but t k) p⟩
theorem RunsF.lst {Z : List Addr} {H : Hp} {l : Addr} {rs : List (List Pr)} (h : RunsF Z H l rs) : Lst RunV H l rs :=
  let ⟨_, vs, e, p⟩ := h
  ⟨vs, e, P2.mono (fun _ _ q => let ⟨g, e, _, L⟩ := q; ⟨g, e, L⟩) p⟩
def sp_law_parts (K : PySem.W.Frag) : Sp := fun vs H Q E => match vs with
  | [b, ov, rv, mv] => ∃ a l ks o rows lo lr m, b = .ref a ∧ ov = .ref lo ∧ rv = .ref lr ∧ mv = .int m ∧ 1 ≤ m ∧ m ≤ 40 ∧ Box H a l ∧ Lst TurnAt H lo o ∧ (∀ t ∈ o, t.1 < ks.length) ∧ Lst RowAt H lr rows ∧ (∀ r ∈ rows, isRow ks r = true) ∧ rows.length ≤ 120 ∧ lo ≠ a ∧ lo ≠ l ∧ lr ≠ a ∧ lr ≠ l ∧
    ∀ t rs H', H t = none → RunsF [a, l] H' t rs → PartsOk ks o rows rs → 1 ≤ rs.length → (rs.length : Int) ≤ m → Box H' a l → But [a, l] H H' → Q (.ref t) H'
  | _ => False
def t_law_parts (K : PySem.W.Frag) (E : XK) : TS := (tSeq (tAsg (tLc (iRng1 (tCons (tOpD xAdd (.int 1) (tCall (sp_law_take K) [] E (tCons (tVar 0) (tCons (tVar 3) tNil)))) tNil)) (gName 6) tYes (tLst tNil) [6]) (gName 4))
  (tSeq (tAsg (tOp (rIxL K) (tLst (tConsC (.int 1) (tCons (tOpD xAdd (.int 1) (tCall (sp_law_take K) [] E (tCons (tVar 0) (tConsC (.int 9) tNil)))) (tCons (tOpC xPow (tC (.int 10)) (.int 9)) tNil)))) (tCall (sp_law_take K) [] E (tCons (tVar 0) (tConsC (.int 3) tNil)))) (gName 5))
   (tSeq (tFor (iRng1 (tCons (tCB1 (xLen K) (tVar 2)) tNil)) (gName 6) (tDrop (tBM K "list" rAppend (tOp (rIxL K) (tVar 4) (tCall (sp_law_take K) [] E (tCons (tVar 0) (tCons (tCB1 (xLen K) (tVar 4)) tNil)))) (tCons (tTup (tCons (tOp xMul (tVar 6) (tVar 5)) (tCons (tOp (rIxL K) (tVar 2) (tVar 6)) tNil))) tNil))))
    (tRet (tLc (iList K (tVar 4)) (gName 7) tYes (tCall (sp_law_sorted K) [] E0 (tCons (tVar 1) (tCons (tVar 7) tNil))) [7])))))
def Pool (H : Hp) (as : List Addr) (rs : List (List Pr)) : Prop := as.Nodup ∧ as.length = rs.length ∧ ∀ i x, as[i]? = some x → Lst PairAt H x (rs.getD i [])
theorem rep_nil {n i : Nat} : (List.replicate n ([] : List Pr)).getD i [] = [] := by
  rw [List.getD_eq_getElem?_getD, List.getElem?_replicate]
  split <;> rfl
theorem flat_rep {n : Nat} : (List.replicate n ([] : List Pr)).flatten = [] := by
  induction n with
  | zero => rfl
  | succ n ih => rw [List.replicate_succ, List.flatten_cons, ih]; rfl
theorem flat_one {rs : List (List Pr)} {i : Nat} {p : Pr} (h : i < rs.length) : (rs.set i (rs.getD i [] ++ [p])).flatten.Perm (rs.flatten ++ [p]) := by
  induction rs generalizing i with
  | nil => exact (Nat.not_lt_zero _ h).elim
  | cons r rs ih =>
    cases i with
    | zero =>
      rw [List.set_cons_zero, List.flatten_cons, List.flatten_cons, List.getD_cons_zero, List.append_assoc, List.append_assoc]
      exact List.Perm.append_left r List.perm_append_comm
    | succ i =>
      rw [List.set_cons_succ, List.flatten_cons, List.flatten_cons, List.getD_cons_succ, List.append_assoc]
      exact List.Perm.append_left r (ih (by simpa using h))
theorem perm_flat {ys rs : List (List Pr)} {F : List Pr → List Pr → Prop} (f : ∀ a b, F a b → a.Perm b) (h : Paired F ys rs) : ys.flatten.Perm rs.flatten := by
  induction h with
  | nil => exact .refl _
  | cons a _ ih => exact (f _ _ a).append ih
theorem Pool.set {H : Hp} {as : List Addr} {rs : List (List Pr)} {i : Nat} {x : Addr} {vs : List V} {r : List Pr} (P : Pool H as rs) (e : as[i]? = some x) (t : TupLe H (upd H x (.lst vs))) (pv : Paired (PairAt (upd H x (.lst vs))) vs r) : Pool (upd H x (.lst vs)) as (rs.set i r) := by
  obtain ⟨nd, le, g⟩ := P
  have il := (List.getElem?_eq_some_iff.mp e).1
  refine ⟨nd, by rw [List.length_set]; exact le, fun j y ej => ?_⟩
  have jl := (List.getElem?_eq_some_iff.mp ej).1
  by_cases c : j = i
  · subst c
    rw [e] at ej
    cases ej
    rw [List.getD_eq_getElem?_getD, List.getElem?_set_self (by omega)]
    exact ⟨vs, upd_same, pv⟩
  · rw [List.getD_eq_getElem?_getD, List.getElem?_set_ne (fun z => c z.symm), ← List.getD_eq_getElem?_getD]
    refine (g j y ej).keep PairAt.st t fun o q => up q fun z => c ?_
    have e1 := (List.getElem?_eq_some_iff.mp ej).2
    have e2 := (List.getElem?_eq_some_iff.mp e).2
    rcases Nat.lt_or_gt_of_ne c with h | h
    · exact (List.pairwise_iff_getElem.mp nd j i jl il h (by rw [e1, e2, z])).elim
    · exact (List.pairwise_iff_getElem.mp nd i j il jl h (by rw [e1, e2, z])).elim
def RunT (Z : Addr → Prop) (t : Addr) (H : Hp) (v : V) (y : List Pr) : Prop := ∃ g, v = .ref g ∧ g ≠ t ∧ Z g ∧ Lst PairAt H g y
theorem pure_law_parts {K : PySem.W.Frag} : ∀ vs H Q E, sp_law_parts K vs H Q E → t_law_parts K E { nx := fun _ H' => Q .non H', rt := Q } (start N_law_parts vs) H := by
  intro vs H Q E h
  match vs, h with
  | [b, ov, rv, mv], h =>
    obtain ⟨a, l, ks, o, rows, lo, lr, m, rfl, rfl, rfl, rfl, m1, m40, B, Lo, hcol, Lr, hrow, hlen, na1, na2, na3, na4, k⟩ := h
    obtain ⟨ov, eo, po⟩ := id Lo
    obtain ⟨rv, er, pr⟩ := id Lr
    have lpr := pr.length
    refine ⟨_, rfl, _, rfl, a, l, _, rfl, rfl, by omega, by omega, B, fun r0 H1 q0 q1 B1 k1 => ⟨_, _, rfl, rfl, _, rfl, by omega, by omega, fun D hD => ?_⟩⟩
    obtain ⟨_, _, ha1, hl1, _⟩ := B1.ex
    have Da := (ne_of_none ha1 hD).symm
    have Dl := (ne_of_none hl1 hD).symm
    have hD0 : H D = none := none_of_but k1 hD (nn Da Dl)
    refine lc_range (lo := 0) (n := (1 + r0).toNat) (fun j H' => ∃ as : List Addr, H' D = some (.lst (as.map V.ref)) ∧ as.length = j ∧ Pool H' as (List.replicate j []) ∧ (∀ x ∈ as, H1 x = none ∧ x ≠ D) ∧ Same H1 H') ⟨[], upd_same, rfl, ⟨List.nodup_nil, rfl, fun i x e => nomatch e⟩, (fun x hx => nomatch hx), Rs.Same.new hD⟩ ?_ ?_
    · rintro j H' hj ⟨as, hd, al, P, fr, s⟩
      refine ⟨rfl, lc_yes ⟨sz0, fun e he => ?_⟩⟩
      have hd' := un (u := .lst []) hd he
      have eD : e ≠ D := (ne_of_none hd he).symm
      have nas : ∀ i x, as[i]? = some x → x ≠ e := fun i x ex => by
        obtain ⟨vs, q, _⟩ := P.2.2 i x ex
        exact ne_of_none q he
      have t1 : TupLe H' (upd (upd H' e (.lst [])) D (.lst (as.map V.ref ++ [.ref e]))) := (TupLe.new he).list hd'
      refine ⟨_, hd', szlt (by rw [List.length_map]; omega), as ++ [e], by rw [upd_same, List.map_append]; rfl, by simp [al], ?_, ?_, Rs.Same.mut (s.trans (Rs.Same.new he)) hD⟩
      · refine ⟨List.nodup_append.mpr ⟨P.1, by simp, fun x hx y hy z => ?_⟩, by simp [al], fun i x ex => ?_⟩
        · rw [List.mem_singleton] at hy
          obtain ⟨i, hi⟩ := List.mem_iff_getElem?.mp hx
          exact nas i x hi (z.trans hy)
        · rw [rep_nil]
          rw [List.getElem?_append] at ex
          split at ex
          · have q := P.2.2 i x ex
            rw [rep_nil] at q
            exact q.keep PairAt.st t1 fun o q => up (up q (nas i x ex)) (fr x (List.mem_of_getElem? ex)).2
          · rename_i c
            have : x = e := by
              cases hq : i - as.length with
              | zero => rw [hq] at ex; cases ex; rfl
              | succ n => rw [hq] at ex; cases ex
            subst this
            exact ⟨[], up upd_same eD, .nil⟩
      · intro x hx
        rcases List.mem_append.mp hx with z | z
        · exact fr x z
        · rw [List.mem_singleton] at z
          subst z
          exact ⟨s.free he, eD⟩
    rintro H2 ⟨as, hd, al, P, fr, s12⟩
    have B2 : Box H2 a l := B1.same s12
    have k02 : But [a, l] H H2 := k1.trans (But.same s12)
    have asA : ∀ x ∈ as, x ≠ a ∧ x ≠ l := fun x hx => ⟨(ne_of_none ha1 (fr x hx).1).symm, (ne_of_none hl1 (fr x hx).1).symm⟩
    have fr0 : ∀ x ∈ as, H x = none := fun x hx => none_of_but k1 (fr x hx).1 (nn (asA x hx).1 (asA x hx).2)
    -- the step
    refine ⟨_, rfl, a, l, _, rfl, rfl, by decide, by decide, B2, fun r1 H3 u0 u1 B3 k3 => ?_⟩
    refine ⟨_, _, rfl, rfl, _, _, rfl, rfl, ⟨by decide, by decide, by decide⟩, szle (by show 3 ≤ 100000; decide), fun q hq => ?_⟩
    have k4 : But [a, l] H2 (upd H3 q (.lst [.int 1, .int (1 + r1), .int (10 ^ (9 : Int).toNat)])) := k3.new hq
    have B4 := B3.same (Rs.Same.new (o := .lst [.int 1, .int (1 + r1), .int (10 ^ (9 : Int).toNat)]) hq)
    have e4 : upd H3 q (.lst [.int 1, .int (1 + r1), .int (10 ^ (9 : Int).toNat)]) q = some _ := upd_same
    have q0 : H2 q = none := none_of_but k3 hq (by
      obtain ⟨_, _, e1, e2, _⟩ := B3.ex
      exact nn (ne_of_none e1 hq).symm (ne_of_none e2 hq).symm)
    generalize upd H3 q (.lst [.int 1, .int (1 + r1), .int (10 ^ (9 : Int).toNat)]) = H4 at k4 B4 e4
    have qa : q ≠ a ∧ q ≠ l := by
      obtain ⟨_, _, e1, e2, _⟩ := B2.ex
      exact ⟨(ne_of_none e1 q0).symm, (ne_of_none e2 q0).symm⟩
    refine ⟨_, rfl, a, l, _, rfl, rfl, by decide, by decide, B4, fun r2 H5 v0 v1 B5 k5 => ?_⟩
    have e5 := k5 _ _ e4 (nn qa.1 qa.2)
    have k25 : But [a, l] H2 H5 := k4.trans k5
    have k05 : But [a, l] H H5 := k02.trans k25
    have hd5 : H5 D = some (.lst (as.map V.ref)) := k25 _ _ hd (nn Da Dl)
    have P5 : Pool H5 as (List.replicate (1 + r0).toNat []) := ⟨P.1, P.2.1, fun i x ex => by
      have xm := List.mem_of_getElem? ex
      exact (P.2.2 i x ex).keep PairAt.st (B2.tup k25) fun o q => k25 _ _ q (nn (asA x xm).1 (asA x xm).2)⟩
    have al2 : as.length = (1 + r0).toNat := al
    have main : ∀ st : Int, 1 ≤ st → st ≤ 1000000000 → (tSeq (tFor (iRng1 (tCons (tCB1 (xLen K) (tVar 2)) tNil)) (gName 6)
                    (tDrop (tBM K "list" rAppend (tOp (rIxL K) (tVar 4) (tCall (sp_law_take K) [] E (tCons (tVar 0) (tCons (tCB1 (xLen K) (tVar 4)) tNil))))
                        (tCons (tTup (tCons (tOp xMul (tVar 6) (tVar 5)) (tCons (tOp (rIxL K) (tVar 2) (tVar 6)) tNil))) tNil))))
                  (tRet (tLc (iList K (tVar 4)) (gName 7) tYes (tCall (sp_law_sorted K) [] E0 (tCons (tVar 1) (tCons (tVar 7) tNil))) [7])))
        { nx := fun _ H' => Q .non H', rt := Q } [some (.ref a), some (.ref lo), some (.ref lr), some (.int m), some (.ref D), some (.int st), none, none] H5 := fun st st1 st2 => by
      refine ⟨_, rfl, lenL (k05 _ _ er (nn na3 na4)) rfl ⟨_, rfl, by omega, by omega, ?_⟩⟩
      refine for_range (lo := 0) (n := ((rv.length : Nat) : Int).toNat) (fun i σ H' => ∃ (rs : List (List Pr)) (x6 : Option V), σ = [some (.ref a), some (.ref lo), some (.ref lr), some (.int m), some (.ref D), some (.int st), x6, none] ∧ H' D = some (.lst (as.map V.ref)) ∧ Pool H' as rs ∧
          rs.flatten.Perm ((List.range i).map fun (j : Nat) => ((j : Int) * st, rows.getD j [])) ∧ Box H' a l ∧ But [a, l] H H') ⟨_, none, rfl, hd5, P5, by rw [flat_rep]; exact .refl _, B5, k05⟩ ?_ ?_
      · rintro i σ H' hi ⟨rs, x6, rfl, hd', P', pm, B', k'⟩
        have il : i < rows.length := by omega
        refine ⟨_, rfl, _, rfl, _, rfl, lenL hd' rfl ⟨a, l, _, rfl, rfl, by rw [List.length_map]; omega, by rw [List.length_map]; omega, B', fun r H6 w0 w1 B6 k6 => ?_⟩⟩
        rw [List.length_map] at w1
        have hd6 := k6 _ _ hd' (nn Da Dl)
        have rl : r.toNat < as.length := by omega
        have ex : as[r.toNat]? = some as[r.toNat] := List.getElem?_eq_getElem rl
        have xm := List.getElem_mem rl
        generalize as[r.toNat] = x at ex xm
        obtain ⟨vs, hx, pv⟩ := P'.2.2 _ x ex
        have hx6 := k6 _ _ hx (nn (asA x xm).1 (asA x xm).2)
        have er6 := (k'.trans k6) _ _ er (nn na3 na4)
        have rr : r = ((r.toNat : Nat) : Int) := by omega
        rw [rr]
        have flt := pm.length_eq
        rw [List.length_map, List.length_range] at flt
        have vle : vs.length ≤ 120 := by
          have q := pv.length
          have : (rs.getD r.toNat []).length ≤ rs.flatten.length := by
            rw [List.getD_eq_getElem?_getD, List.getElem?_eq_getElem (by rw [← P'.2.1]; exact rl)]
            exact (List.sublist_flatten_of_mem (List.getElem_mem _)).length_le
          omega
        obtain ⟨w, hw, aw⟩ := P2.get' pr (List.getElem?_eq_getElem il)
        refine ixL hd6 rfl (show (as.map V.ref)[r.toNat]? = some (V.ref x) by rw [List.getElem?_map, ex]; rfl) ⟨.inl ⟨rfl, _, SqL.of hx6⟩, _, rfl, _, rfl, _, _, rfl, rfl, .inl ⟨by omega, by omega⟩, _, rfl, _, rfl, ixL er6 (show (0 + (i : Int)) = ((i : Nat) : Int) by omega) hw ⟨szle (by show 2 ≤ 100000; decide), fun T hT => ⟨_, _, _, rfl, rfl, un hx6 hT, szlt (by omega), ?_⟩⟩⟩
        have eT : upd H6 T (.tup [.int ((0 + (i : Int)) * st), w]) T = some _ := upd_same
        have s7 : Same H6 (upd H6 T (.tup [.int ((0 + (i : Int)) * st), w])) := Rs.Same.new hT
        have hx7 := s7 _ _ hx6
        have k07 := (k'.trans k6).new (o := .tup [.int ((0 + (i : Int)) * st), w]) hT
        have B7 := B6.same s7
        have hd7 := s7 _ _ hd6
        have P7 : Pool (upd H6 T (.tup [.int ((0 + (i : Int)) * st), w])) as rs := ⟨P'.1, P'.2.1, fun j y ey => by
          have ym := List.mem_of_getElem? ey
          exact ((P'.2.2 j y ey).keep PairAt.st (B'.tup k6) fun o q => k6 _ _ q (nn (asA y ym).1 (asA y ym).2)).same PairAt.st s7⟩
        have aw7 : RowAt (upd H6 T (.tup [.int ((0 + (i : Int)) * st), w])) w rows[i] := RowAt.st _ _ _ _ (((B.tup k').trans (B'.tup k6)).trans (TupLe.same s7)) aw
        generalize upd H6 T (.tup [.int ((0 + (i : Int)) * st), w]) = H7 at eT s7 hx7 k07 B7 hd7 P7 aw7 ⊢
        have t8 : TupLe H7 (upd H7 x (.lst (vs ++ [.ref T]))) := (TupLe.refl H7).list hx7
        have ep : PairAt (upd H7 x (.lst (vs ++ [.ref T]))) (.ref T) ((i : Int) * st, rows[i]) := ⟨w, ⟨T, rfl, by
          have := t8 _ _ eT
          rw [show (0 + (i : Int)) = (i : Int) by omega] at this
          exact this⟩, RowAt.st _ _ _ _ t8 aw7⟩
        obtain ⟨vs2, hx2, pv2⟩ := P7.2.2 _ x ex
        rw [hx7] at hx2
        cases hx2
        have rl2 : r.toNat < rs.length := by rw [← P'.2.1]; exact rl
        refine ⟨rs.set r.toNat (rs.getD r.toNat [] ++ [((i : Int) * st, rows[i])]), _, rfl, up hd7 (fr x xm).2.symm, P7.set ex t8 (P2.app (Paired.tl PairAt.st t8 pv2) (P2.one ep)), ?_, B7.keep (fun o e => up e (asA x xm).1.symm) (fun o e => up e (asA x xm).2.symm), k07.mut (fr0 x xm)⟩
        rw [List.range_succ, List.map_append]
        refine (flat_one rl2).trans (pm.append ?_)
        show List.Perm _ [(((i : Nat) : Int) * st, rows.getD i [])]
        rw [List.getD_eq_getElem?_getD, List.getElem?_eq_getElem il]
        exact .refl _
      · rintro σ H' ⟨rs, x6, rfl, hd', P', pm, B', k'⟩
        have en : ((rv.length : Nat) : Int).toNat = rows.length := by omega
        rw [en] at pm
        have fine : Fine ks rs.flatten := by
          refine Fine.perm ⟨fun p hp => ?_, ?_⟩ pm
          · obtain ⟨j, hj, rfl⟩ := List.mem_map.mp hp
            have jl := List.mem_range.mp hj
            show isRow ks (rows.getD j []) = true
            rw [List.getD_eq_getElem?_getD, List.getElem?_eq_getElem jl]
            exact hrow _ (List.getElem_mem jl)
          · rw [List.map_map]
            refine List.pairwise_map.mpr (List.Pairwise.imp (fun {x y} ne z => ne ?_) List.nodup_range)
            have z : (x : Int) * st = (y : Int) * st := z
            have := Int.eq_of_mul_eq_mul_right (show st ≠ 0 by omega) z
            omega
        have num : ∀ p ∈ rs.flatten, 0 ≤ p.1 ∧ p.1 ≤ 1000000000000 := fun p hp => by
          obtain ⟨j, hj, rfl⟩ := List.mem_map.mp (pm.mem_iff.mp hp)
          have jl := List.mem_range.mp hj
          show 0 ≤ (j : Int) * st ∧ (j : Int) * st ≤ 1000000000000
          refine ⟨Int.mul_nonneg (by omega) (by omega), ?_⟩
          calc (j : Int) * st ≤ (j : Int) * 1000000000 := Int.mul_le_mul_of_nonneg_left st2 (by omega)
            _ ≤ 1000000000000 := by omega
        have flen : rs.flatten.length = rows.length := by rw [pm.length_eq, List.length_map, List.length_range]
        refine ⟨_, rfl, D, rfl, ⟨_, SqL.of hd'⟩, fun t ht => ?_⟩
        have t0 : H t = none := none_of_but k' ht (by
          obtain ⟨_, _, e1, e2, _⟩ := B'.ex
          exact nn (ne_of_none e1 ht).symm (ne_of_none e2 ht).symm)
        refine lc_list (K := K) (a := D) (xs := as.map V.ref) (fun j H8 => ∃ vs ys, H8 t = some (.lst vs) ∧ Paired (RunT (fun g => H g = none) t H8) vs ys ∧ Paired (fun (y r : List Pr) => y.Perm r ∧ Up o y) ys (rs.take j) ∧ Same H' H8) ⟨[], [], upd_same, .nil, .nil, Rs.Same.new ht⟩ ?_ ?_ ?_
        · rintro j H8 _ ⟨_, _, _, _, _, s⟩
          exact SqL.of (s _ _ hd')
        · rintro j v H8 hj ⟨vs, ys, h8, pv, py, s⟩
          rw [List.getElem?_map] at hj
          obtain ⟨x, ex, rfl⟩ := Option.map_eq_some_iff.mp hj
          have jl : j < rs.length := by rw [← P'.2.1]; exact (List.getElem?_eq_some_iff.mp ex).1
          have rj : rs[j]? = some (rs.getD j []) := by rw [List.getD_eq_getElem?_getD, List.getElem?_eq_getElem jl]; rfl
          have sub : (rs.getD j []).Sublist rs.flatten := List.sublist_flatten_of_mem (List.mem_of_getElem? rj)
          have lv := pv.length
          have ly := py.length
          rw [List.length_take] at ly
          refine ⟨rfl, lc_yes ⟨_, rfl, _, rfl, ks, o, rs.getD j [], ⟨lo, rfl, (Lo.keep TurnAt.st ((B.tup k').trans (TupLe.same s)) fun u q => s _ _ (k' _ _ q (nn na1 na2)))⟩, ⟨x, rfl, (P'.2.2 j x ex).same PairAt.st s⟩, hcol, fine.sub sub, by have := sub.length_le; omega, fun f zs H9 hf Lf pz uz s9 => ?_⟩⟩
          have t9 : TupLe H9 (upd H9 t (.lst (vs ++ [.ref f]))) := (TupLe.refl H9).list (s9 _ _ h8)
          have nft : f ≠ t := (ne_of_none h8 hf).symm
          have lrs := P'.2.1
          refine ⟨vs, s9 _ _ h8, szlt (by omega), _, ys ++ [zs], upd_same, ?_, ?_, Rs.Same.mut (s.trans s9) ht⟩
          · refine P2.app (P2.mono (fun v y q => ?_) pv) (P2.one ⟨f, rfl, nft, none_of_but (k'.trans (But.same s)) hf (by
            obtain ⟨_, _, e1, e2, _⟩ := (B'.same s).ex
            exact nn (ne_of_none e1 hf).symm (ne_of_none e2 hf).symm), Lf.keep PairAt.st t9 fun u q => up q nft⟩)
            obtain ⟨g, rfl, ng, g0, Lg⟩ := q
            exact ⟨g, rfl, ng, g0, (Lg.same PairAt.st s9).keep PairAt.st t9 fun u q => up q ng⟩
          · rw [List.take_succ, rj]
            exact P2.app py (P2.one ⟨pz, uz⟩)
        · rintro H8 ⟨vs, ys, h8, pv, py, s⟩
          rw [List.length_map, List.take_of_length_le (by rw [← P'.2.1]; exact Nat.le_refl _)] at py
          have pf := perm_flat (fun a b h => h.1) py
          have ly := py.length
          have lrs := P'.2.1
          obtain ⟨_, _, ha0, hl0, _⟩ := B.ex
          refine k t ys H8 t0 ⟨nn (ne_of_none ha0 t0).symm (ne_of_none hl0 t0).symm, vs, h8, P2.mono (fun v y q => let ⟨g, e, _, g0, Lg⟩ := q; ⟨g, e, nn (ne_of_none ha0 g0).symm (ne_of_none hl0 g0).symm, Lg⟩) pv⟩ ⟨fun y hy => ?_, fun p hp => ⟨fine.row p (pf.mem_iff.mp hp), num p (pf.mem_iff.mp hp)⟩, (pf.map (·.1)).nodup_iff.mpr fine.nd, by rw [pf.length_eq]; exact flen⟩ (by omega) (by omega) (B'.same s) (k'.trans (But.same s))
          obtain ⟨j, hj⟩ := List.mem_iff_getElem?.mp hy
          obtain ⟨r, _, q⟩ := P2.get py hj
          exact q.2
    have hr2 : r2 = 0 ∨ r2 = 1 ∨ r2 = 2 := by omega
    rcases hr2 with rfl | rfl | rfl
    · exact ixL e5 (j := 0) rfl rfl (main 1 (by decide) (by decide))
    · exact ixL e5 (j := 1) rfl rfl (main (1 + r1) (by omega) (by omega))
    · exact ixL e5 (j := 2) rfl rfl (main (10 ^ (9 : Int).toNat) (by decide) (by decide))
end Rs

namespace Rs
open PySem PySem.Spec PyProof.Rows L2
open LamX
def SSt {α : Type} (R : Rel α) : Prop := ∀ (H H' : Hp) (v : V) (x : α), Same H H' → R H v x → R H' v x
def LF {α : Type} (Z : List Addr) (R : Rel α) : Rel (List α) := fun H v xs => ∃ g vs, v = .ref g ∧ g ∉ Z ∧ H g = some (.lst vs) ∧ Paired (R H) vs xs
def ZIn (Z : List Addr) (H : Hp) : Prop := ∀ z ∈ Z, H z ≠ none
section
variable {α : Type} {Z : List Addr} {R : Rel α} {H H' : Hp} {v x y : V} {xs ys : List α} {K : PySem.W.Frag} {Q : VK}
theorem pair_sst : SSt PairAt := fun _ _ _ _ s h => PairAt.st _ _ _ _ (TupLe.same s) h
theorem LF.sst (st : SSt R) : SSt (LF Z R) := fun H H' v x s h =>
  let ⟨g, vs, e, n, q, p⟩ := h
  ⟨g, vs, e, n, s _ _ q, P2.mono (fun _ _ q => st _ _ _ _ s q) p⟩
theorem ZIn.out (z : ZIn Z H) {p : Addr} (h : H p = none) : p ∉ Z := fun m => z p m h
theorem ZIn.same (z : ZIn Z H) (s : Same H H') : ZIn Z H' := fun a m e => z a m (s.free e)
theorem LF.len (h : LF Z R H v xs) : ∃ g vs, v = .ref g ∧ H g = some (.lst vs) ∧ vs.length = xs.length :=
  let ⟨g, vs, e, _, q, p⟩ := h
  ⟨g, vs, e, q, p.length⟩
theorem LF.new {vs : List V} {p : Addr} (st : SSt R) (z : ZIn Z H) (hp : H p = none) (q : Paired (R H) vs xs) : LF Z R (upd H p (.lst vs)) (.ref p) xs :=
  ⟨p, vs, rfl, z.out hp, upd_same, P2.mono (fun _ _ q => st _ _ _ _ (Rs.Same.new hp) q) q⟩
theorem cat_F (st : SSt R) (z : ZIn Z H) (hx : LF Z R H x xs) (hy : LF Z R H y ys) (hl : xs.length + ys.length ≤ 100000) (k : ∀ p H', Same H H' → LF Z R H' (.ref p) (xs ++ ys) → Q (.ref p) H') : rCat x y H Q := by
  obtain ⟨g, vs, rfl, _, e, p⟩ := hx
  obtain ⟨f, ws, rfl, _, e2, p2⟩ := hy
  have l1 := p.length
  have l2 := p2.length
  exact ⟨g, f, vs, ws, rfl, rfl, e, e2, szle (by omega), fun q hq => k q _ (Rs.Same.new hq) (LF.new st z hq (P2.app p p2))⟩
theorem cut_F (st : SSt R) (z : ZIn Z H) (hx : LF Z R H x xs) {lo hi : Option Int} {i j : Nat} (hc : ∀ vs : List V, vs.length = xs.length → cutV vs lo hi = (vs.drop i).take j) (k : ∀ p H', Same H H' → LF Z R H' (.ref p) ((xs.drop i).take j) → Q (.ref p) H') : rSlL K x lo hi H Q := by
  obtain ⟨g, vs, rfl, _, e, p⟩ := hx
  refine ⟨g, vs, rfl, SqL.of e, fun q hq => ?_⟩
  rw [hc vs p.length]
  exact k q _ (Rs.Same.new hq) (LF.new st z hq (P2.take j (P2.drop i p)))
theorem at_F (hx : LF Z R H x xs) {i : Nat} (hi : i < xs.length) {j : Int} (hj : j = (i : Int)) (k : ∀ v, R H v xs[i] → Q v H) : rIxL K x (.int j) H Q := by
  obtain ⟨g, vs, rfl, _, e, p⟩ := hx
  obtain ⟨v, hv, r⟩ := P2.get' p (List.getElem?_eq_getElem hi)
  exact ixL e hj hv (k v r)
theorem last_F (hx : LF Z R H x xs) (ne : xs.length ≠ 0) (k : ∀ v, R H v (xs[xs.length - 1]'(by omega)) → Q v H) : rIxL K x (.int (-1)) H Q := by
  obtain ⟨g, vs, rfl, _, e, p⟩ := hx
  have l := p.length
  obtain ⟨v, hv, r⟩ := P2.get' p (List.getElem?_eq_getElem (by omega : xs.length - 1 < xs.length))
  have ev : vs = vs.dropLast ++ [v] := by
    have ne2 : vs ≠ [] := fun z => by
      rw [z] at l
      exact ne l.symm
    have q := List.dropLast_concat_getLast ne2
    rw [List.getLast_eq_getElem] at q
    have : vs[vs.length - 1]'(by omega) = v := by
      have := (List.getElem?_eq_some_iff.mp hv).2
      simp only [l] at this ⊢
      exact this
    rw [this] at q
    exact q.symm
  rw [ev] at e
  exact ixLast e (k v r)
theorem len_F (hx : LF Z R H x xs) (q : Q (.int (xs.length : Int)) H) : xLen K [x] H Q := by
  obtain ⟨g, vs, rfl, _, e, p⟩ := hx
  exact lenL e (by rw [p.length]) q
end
theorem bad_one {ks : List Str} {o : Ord} {xs : List Pr} {p : Pr} (h : p ∈ xs) (b : p.1 < 0 ∨ isRow ks p.2 = false) : isRunB ks o xs = false := by
  unfold isRunB
  rw [Bool.and_eq_false_iff]
  left
  rw [List.all_eq_false]
  refine ⟨p, h, ?_⟩
  rcases b with b | b
  · rw [decide_eq_false (by omega)]
    simp
  · rw [b]
    simp
def putBad (rs : List (List Pr)) (n : Nat) (x : List Pr) (more : List (List Pr)) : List (List Pr) := rs.take n ++ [x] ++ rs.drop (n + 1) ++ more
theorem putBad_bad {ks : List Str} {o : Ord} {rs more : List (List Pr)} {n : Nat} {x : List Pr} (hn : n < rs.length) (h40 : n ≤ 40) (good : ∀ r ∈ rs, isRunB ks o r = true) (nd : (rs.flatten.map (·.1)).Nodup) (b : isRunB ks o x = false ∨ ¬ (x.map (·.1)).Nodup) : BadRun ks o (putBad rs n x more) n := by
  have lt : (rs.take n).length = n := by rw [List.length_take]; omega
  have e1 : putBad rs n x more = rs.take n ++ (x :: (rs.drop (n + 1) ++ more)) := by
    unfold putBad
    simp
  have tk : ∀ i, i ≤ n → (putBad rs n x more).take i = rs.take i := fun i hi => by
    rw [e1, List.take_append_of_le_length (by omega), List.take_take, Nat.min_eq_left hi]
  have gx : (putBad rs n x more).getD n [] = x := by
    rw [e1, List.getD_eq_getElem?_getD, List.getElem?_append_right (by omega), lt, Nat.sub_self]
    rfl
  have tn : (putBad rs n x more).take (n + 1) = rs.take n ++ [x] := by
    rw [e1, List.take_append, lt, List.take_of_length_le (by omega), show n + 1 - n = 1 by omega]
    rfl
  refine ⟨by rw [e1, List.length_append, lt, List.length_cons]; omega, h40, ?_, fun i hi => ⟨?_, ?_⟩⟩
  · rcases b with b | b
    · exact .inr (.inl (by rw [gx]; exact b))
    · refine .inr (.inr fun z => b ?_)
      rw [tn, List.flatten_append, List.map_append] at z
      have := (List.nodup_append.mp z).2.1
      simpa using this
  · rw [e1, List.getD_eq_getElem?_getD, List.getElem?_append_left (by omega), List.getElem?_take_of_lt hi, List.getElem?_eq_getElem (by omega)]
    exact good _ (List.getElem_mem _)
  · rw [tk (i + 1) (by omega)]
    refine nd.sublist (List.Sublist.map _ ?_)
    have : rs.flatten = (rs.take (i + 1)).flatten ++ (rs.drop (i + 1)).flatten := by rw [← List.flatten_append, List.take_append_drop]
    rw [this]
    exact List.sublist_append_left ..
section
variable {α : Type} {Z : List Addr} {R : Rel α} {H H' : Hp} {v : V} {xs : List α}
theorem LF.but (h : LF Z R H v xs) (st : ∀ v x, R H v x → R H' v x) (k : But Z H H') : LF Z R H' v xs :=
  let ⟨g, vs, e, n, q, p⟩ := h
  ⟨g, vs, e, n, k _ _ q n, P2.mono (fun _ _ q => st _ _ q) p⟩
theorem LF.cons {S : Addr} (h : LF Z R H v xs) (hS : H S = none) : LF (S :: Z) R H v xs :=
  let ⟨g, vs, e, n, q, p⟩ := h
  ⟨g, vs, e, fun m => (List.mem_cons.mp m).elim (fun z => ne_of_none q hS z) n, q, p⟩
theorem LF.tail {S : Addr} (h : LF (S :: Z) R H v xs) : LF Z R H v xs :=
  let ⟨g, vs, e, n, q, p⟩ := h
  ⟨g, vs, e, fun m => n (List.mem_cons_of_mem _ m), q, p⟩
theorem LF.mut {S : Addr} {o : HO} (h : LF (S :: Z) R H v xs) (st : ∀ v x, R H v x → R (upd H S o) v x) : LF (S :: Z) R (upd H S o) v xs :=
  let ⟨g, vs, e, n, q, p⟩ := h
  ⟨g, vs, e, n, up q fun z => n (by rw [z]; exact List.mem_cons_self), P2.mono (fun _ _ q => st _ _ q) p⟩
theorem ZIn.cons {S : Addr} {o : HO} (z : ZIn Z H) (e : H S = some o) : ZIn (S :: Z) H := fun a m => by
  rcases List.mem_cons.mp m with rfl | m
  · rw [e]
    exact fun h => nomatch h
  · exact z a m
end
theorem Box.zin {H : Hp} {a l : Addr} (B : Box H a l) : ZIn [a, l] H := fun x hx => by
  obtain ⟨_, _, e1, e2, _⟩ := B.ex
  simp only [List.mem_cons, List.not_mem_nil, or_false] at hx
  rcases hx with rfl | rfl
  · rw [e1]
    exact fun h => nomatch h
  · rw [e2]
    exact fun h => nomatch h
def BadX (ks : List Str) (o : Ord) (r x : List Pr) : Prop := (isRunB ks o x = false ∨ ¬ (x.map (·.1)).Nodup) ∧ x.length ≤ r.length + 1 ∧ ∀ p ∈ x, RowSz p.2
abbrev PrF (Z : List Addr) : Rel (List Pr) := LF Z PairAt
theorem one_F {Z : List Addr} {H : Hp} {num : Int} {w : V} {row : Row} {T q : Addr} (z : ZIn Z H) (hw : RowAt H w row) (hT : H T = none) (hq : upd H T (.tup [.int num, w]) q = none) :
    Same H (upd (upd H T (.tup [.int num, w])) q (.lst [.ref T])) ∧ PrF Z (upd (upd H T (.tup [.int num, w])) q (.lst [.ref T])) (.ref q) [(num, row)] := by
  have s1 : Same H (upd H T (.tup [.int num, w])) := Rs.Same.new hT
  have s2 := s1.trans (Rs.Same.new (o := .lst [.ref T]) hq)
  exact ⟨s2, LF.new pair_sst (z.same s1) hq (P2.one ⟨w, ⟨T, rfl, upd_same⟩, RowAt.st _ _ _ _ (TupLe.same s1) hw⟩)⟩
theorem cut_tail {vs : List V} {n : Nat} (h : vs.length = n) (hn : 0 < n) : cutV vs (some (-1)) none = (vs.drop (n - 1)).take 1 := by
  unfold cutV
  have e : HT.sIx vs.length 0 (some (-1)) = n - 1 := by
    unfold HT.sIx
    simp only [h]
    split <;> omega
  rw [e]
  show (vs.drop (n - 1)).take (vs.length - (n - 1)) = _
  rw [h, show n - (n - 1) = 1 by omega]
theorem paired_rev {α β : Type} {F : α → β → Prop} {l : List α} {m : List β} (h : Paired F l m) : Paired F l.reverse m.reverse := by
  induction h with
  | nil => exact .nil
  | cons a _ ih =>
    rw [List.reverse_cons, List.reverse_cons]
    exact P2.app ih (P2.one a)
theorem bad_rev {ks : List Str} {o : Ord} {r : List Pr} (ho : ∀ t ∈ o, t.1 < ks.length) (h : isRunB ks o r = true) (hl : 1 < r.length) : isRunB ks o r.reverse = false := by
  have up := isRunB_up ho h
  have rows := isRunB_row h
  cases q : isRunB ks o r.reverse with
  | false => rfl
  | true =>
    have up2 := isRunB_up ho q
    have a := List.pairwise_iff_getElem.mp up 0 1 (by omega) hl (by decide)
    have b := List.pairwise_reverse.mp up2
    have b := List.pairwise_iff_getElem.mp b 0 1 (by omega) hl (by decide)
    have c := before_trans o (cmp_of ho (rows _ (List.getElem_mem _)) (rows _ (List.getElem_mem _))) (cmp_of ho (rows _ (List.getElem_mem _)) (rows _ (List.getElem_mem _))) a b
    rw [before_irrefl] at c
    exact nomatch c
end Rs

namespace Rs
open PySem PySem.Spec PyProof.Rows L2
open LamX
abbrev N_law_bad : List Str := ["_law_box", "_law_order_here", "_law_runs", "_law_at", "_law_run", "_law_some", "_law_k", "_law_below", "_law_far", "_law_behind"]
abbrev P_law_bad : List Str := ["_law_box", "_law_order_here", "_law_runs"]
def sp_law_bad (K : PySem.W.Frag) : Sp := fun vs H Q E => match vs with
  | [b, _, rv] => ∃ a l ks o rs, b = .ref a ∧ LF [a, l] (PrF [a, l]) H rv rs ∧ 1 ≤ rs.length ∧ rs.length ≤ 39 ∧ (∀ r ∈ rs, r ≠ []) ∧ (∀ r ∈ rs, isRunB ks o r = true) ∧ (rs.flatten.map (·.1)).Nodup ∧ rs.flatten.length ≤ 120 ∧ GoodKinds ks ∧ (∀ t ∈ o, t.1 < ks.length) ∧ Box H a l ∧
    ∀ t D rs' (n : Nat) H', H t = none → H' t = some (.tup [.ref D, .int (n : Int)]) → LF [a, l] (PrF [a, l]) H' (.ref D) rs' → BadRun ks o rs' n → rs'.length ≤ 200 → (∀ r ∈ rs', r.length ≤ 1000 ∧ ∀ p ∈ r, RowSz p.2) → rs'.flatten.length ≤ 1000 → Box H' a l → But [a, l] H H' → Q (.ref t) H'
  | _ => False
def t_law_bad (K : PySem.W.Frag) (E : XK) : TS := (tSeq (tAsg (tCall (sp_law_take K) [] E (tCons (tVar 0) (tCons (tCB1 (xLen K) (tVar 2)) tNil))) (gName 3))
  (tSeq (tAsg (tOp (rIxL K) (tVar 2) (tVar 3)) (gName 4))
   (tSeq (tAsg (tLst (tCons (tOp rCat (tLst (tCons (tTup (tConsC (.int (-1)) (tCons (tOpC (rIxT K) (tOpC (rIxL K) (tVar 4) (.int 0)) (.int 1)) tNil))) tNil)) (tVar 4)) (tCons (tOp rCat (tVar 4) (tSl (rSlL K) (tVar 4) (tPart (tC (.int (-1)))) tNoPart)) (tCons (tOp rCat (tLst (tCons (tTup (tConsC (.int 0) (tCons (tTup tNil) tNil))) tNil)) (tVar 4)) tNil)))) (gName 5))
    (tSeq (tDrop (tBM K "list" rAppend (tVar 5) (tCons (tOp rCat (tVar 4) (tLst (tCons (tTup (tCons (tOpC xPow (tC (.int 10)) (.int 12)) (tCons (tOp (rCatA K) (tOpC (rIxT K) (tOpC (rIxL K) (tVar 4) (.int (-1))) (.int 1)) (tTup (tConsC (.int 0) tNil))) tNil))) tNil))) tNil)))
     (tSeq (tIfS (tTest (tOpC xGt (tCB1 (xLen K) (tVar 4)) (.int 1))) 
        (tSeq (tAsg (tOpD xAdd (.int 1) (tCall (sp_law_take K) [] E (tCons (tVar 0) (tCons (tOpC xSub (tCB1 (xLen K) (tVar 4)) (.int 1)) tNil)))) (gName 6))
        (tSeq (tAsg (tLst (tCons (tTup (tCons (tOpD xSub (.int (-1)) (tCall (sp_law_take K) [] E (tCons (tVar 0) (tCons (tOpC xPow (tC (.int 10)) (.int 9)) tNil)))) (tCons (tOpC (rIxT K) (tOp (rIxL K) (tVar 4) (tVar 6)) (.int 1)) tNil))) tNil)) (gName 7))
         (tSeq (tAsg (tOp rCat (tVar 5) (tLst (tCons (tRevL K (tVar 4)) (tCons (tOp rCat (tOp rCat (tSl (rSlL K) (tVar 4) tNoPart (tPart (tVar 6))) (tVar 7)) (tSl (rSlL K) (tVar 4) (tPart (tOpC xAdd (tVar 6) (.int 1))) tNoPart)) tNil)))) (gName 5))
          (tAsg (tOp rCat (tVar 5) (tOpC rRep (tLst (tCons (tOp rCat (tOp rCat (tSl (rSlL K) (tVar 4) tNoPart (tPart (tVar 6))) (tLst (tCons (tTup (tCons (tOpC (rIxT K) (tOp (rIxL K) (tVar 4) (tCall (sp_law_take K) [] E (tCons (tVar 0) (tCons (tVar 6) tNil)))) (.int 0)) (tCons (tOpC (rIxT K) (tOp (rIxL K) (tVar 4) (tVar 6)) (.int 1)) tNil))) tNil))) (tSl (rSlL K) (tVar 4) (tPart (tOpC xAdd (tVar 6) (.int 1))) tNoPart)) tNil)) (.int 3))) (gName 5))))) tNext)
      (tSeq (tAsg (tCall (sp_law_take K) [] E (tCons (tVar 0) (tCons (tCB1 (xLen K) (tVar 5)) tNil))) (gName 8))
       (tSeq (tAsg (tOp (rIxL K) (tLst (tCons (tLst (tCons (tLst (tCons (tTup (tConsC (.int 0) (tCons (tTup tNil) tNil))) tNil)) tNil)) (tCons (tOp rRep (tLst (tCons (tLst tNil) tNil)) (tOpD xSub (.int 42) (tCB1 (xLen K) (tVar 2)))) tNil))) (tCB1 xInt (tOpC rEq (tCall (sp_law_take K) [] E (tCons (tVar 0) (tConsC (.int 3) tNil))) (.int 0)))) (gName 9))
        (tRet (tTup (tCons (tOp rCat (tOp rCat (tOp rCat (tSl (rSlL K) (tVar 2) tNoPart (tPart (tVar 3))) (tLst (tCons (tOp (rIxL K) (tVar 5) (tVar 8)) tNil))) (tSl (rSlL K) (tVar 2) (tPart (tOpC xAdd (tVar 3) (.int 1))) tNoPart)) (tVar 9)) (tCons (tVar 3) tNil)))))))))))
theorem pure_law_bad {K : PySem.W.Frag} : ∀ vs H Q E, sp_law_bad K vs H Q E → t_law_bad K E { nx := fun _ H' => Q .non H', rt := Q } (start N_law_bad vs) H := by
  intro vs H Q E h
  match vs, h with
  | [b, ov, rv], h =>
    obtain ⟨a, l, ks, o, rs, rfl, LR, n1, n39, ne, good, nd, flen, gk, hcol, B, k⟩ := h
    refine ⟨_, rfl, _, rfl, len_F LR ⟨a, l, _, rfl, rfl, by omega, by omega, B, fun at0 H1 p0 p1 B1 k1 => ?_⟩⟩
    have t1 := B.tup k1
    have LR1 : LF [a, l] (PrF [a, l]) H1 rv rs := LR.but (fun v x q => q.but (fun v x q => PairAt.st _ _ _ _ t1 q) k1) k1
    obtain ⟨n, rfl⟩ : ∃ n : Nat, at0 = (n : Int) := ⟨at0.toNat, by omega⟩
    have hn : n < rs.length := by omega
    refine ⟨_, rfl, _, rfl, at_F LR1 hn rfl fun vr hr => ?_⟩
    have rne := ne _ (List.getElem_mem hn)
    have rgood := good _ (List.getElem_mem hn)
    have rsub : (rs[n]).Sublist rs.flatten := List.sublist_flatten_of_mem (List.getElem_mem hn)
    generalize er : rs[n] = r at hr rne rgood rsub
    have rlen : r.length ≤ 120 := Nat.le_trans rsub.length_le flen
    have rpos : 0 < r.length := List.length_pos_iff.mpr rne
    have rsz : ∀ p ∈ r, RowSz p.2 := fun p hp => RowSz.of (isRunB_row rgood p hp) gk.le
    have st : SSt PairAt := pair_sst
    have stC : ∀ (SV : V) (cs : List (List Pr)) (H5 : Hp) (x6 x7 : Option V), LF [a, l] (PrF [a, l]) H5 SV cs → (∀ x ∈ cs, BadX ks o r x) → 1 ≤ cs.length → cs.length ≤ 20 → Box H5 a l → But [a, l] H H5 →
      (tSeq (tAsg (tCall (sp_law_take K) [] E (tCons (tVar 0) (tCons (tCB1 (xLen K) (tVar 5)) tNil))) (gName 8))
       (tSeq (tAsg (tOp (rIxL K) (tLst (tCons (tLst (tCons (tLst (tCons (tTup (tConsC (.int 0) (tCons (tTup tNil) tNil))) tNil)) tNil)) (tCons (tOp rRep (tLst (tCons (tLst tNil) tNil)) (tOpD xSub (.int 42) (tCB1 (xLen K) (tVar 2)))) tNil))) (tCB1 xInt (tOpC rEq (tCall (sp_law_take K) [] E (tCons (tVar 0) (tConsC (.int 3) tNil))) (.int 0)))) (gName 9))
        (tRet (tTup (tCons (tOp rCat (tOp rCat (tOp rCat (tSl (rSlL K) (tVar 2) tNoPart (tPart (tVar 3))) (tLst (tCons (tOp (rIxL K) (tVar 5) (tVar 8)) tNil))) (tSl (rSlL K) (tVar 2) (tPart (tOpC xAdd (tVar 3) (.int 1))) tNoPart)) (tVar 9)) (tCons (tVar 3) tNil))))))
      { nx := fun _ H' => Q .non H', rt := Q } [some (.ref a), some ov, some rv, some (.int (n : Int)), some vr, some SV, x6, x7, none, none] H5 := by
      intro SV cs H5 x6 x7 LS bad c1 c20 B5 k5
      refine ⟨_, rfl, _, rfl, len_F LS ⟨a, l, _, rfl, rfl, by omega, by omega, B5, fun far0 H6 f0 f1 B6 k6 => ?_⟩⟩
      have stP : ∀ {H H' : Hp}, TupLe H H' → But [a, l] H H' → ∀ v x, PrF [a, l] H v x → PrF [a, l] H' v x := fun t k v x q => q.but (fun v x q => PairAt.st _ _ _ _ t q) k
      have LS6 := LS.but (stP (B5.tup k6) k6) k6
      have k06 := k5.trans k6
      have LR6 := LR.but (stP (B.tup k06) k06) k06
      obtain ⟨far, rfl⟩ : ∃ n : Nat, far0 = (n : Int) := ⟨far0.toNat, by omega⟩
      have hfar : far < cs.length := by omega
      have z6 := B6.zin
      have sst : SSt (PrF [a, l]) := LF.sst pair_sst
      -- behind
      refine ⟨sz0, fun E0 hE0 => ⟨szle (by show 2 ≤ 100000; decide), fun T hT => ⟨szle (by show 1 ≤ 100000; decide), fun q hq => ?_⟩⟩⟩
      have sE : Same H6 (upd H6 E0 (.tup [])) := Rs.Same.new hE0
      have rE : RowAt (upd H6 E0 (.tup [])) (.ref E0) [] := ⟨E0, rfl, upd_same⟩
      generalize upd H6 E0 (.tup []) = H7 at sE rE hT hq ⊢
      obtain ⟨s8, lB⟩ := one_F (num := 0) (z6.same sE) rE hT hq
      generalize upd (upd H7 T (.tup [.int 0, .ref E0])) q (.lst [.ref T]) = H8 at s8 lB ⊢
      have s68 := sE.trans s8
      refine ⟨szle (by show 1 ≤ 100000; decide), fun q2 hq2 => ⟨sz0, fun e he => ⟨szle (by show 1 ≤ 100000; decide), fun e1 he1 => ?_⟩⟩⟩
      have lB2 : LF [a, l] (PrF [a, l]) (upd H8 q2 (.lst [.ref q])) (.ref q2) [[((0 : Int), ([] : Row))]] := LF.new sst (z6.same s68) hq2 (P2.one lB)
      have s9 : Same H8 (upd H8 q2 (.lst [.ref q])) := Rs.Same.new hq2
      generalize upd H8 q2 (.lst [.ref q]) = H9 at lB2 s9 he he1 ⊢
      have s69 := s68.trans s9
      have lE : PrF [a, l] (upd H9 e (.lst [])) (.ref e) [] := LF.new pair_sst (z6.same s69) he .nil
      have s10 : Same H9 (upd H9 e (.lst [])) := Rs.Same.new he
      generalize upd H9 e (.lst []) = H10 at lE s10 he1 ⊢
      have s610 := s69.trans s10
      have s11 : Same H10 (upd H10 e1 (.lst [.ref e])) := Rs.Same.new he1
      have ee : upd H10 e1 (.lst [.ref e]) e1 = some _ := upd_same
      generalize upd H10 e1 (.lst [.ref e]) = H11 at s11 ee ⊢
      have s611 := s610.trans s11
      refine ⟨_, rfl, len_F ((LF.sst sst) _ _ _ _ s611 LR6) ⟨_, _, rfl, rfl, ?_⟩⟩
      refine ⟨_, _, _, rfl, rfl, ee, by show -(2 ^ 63) ≤ (42 : Int) - rs.length; omega, by show (42 : Int) - rs.length < 2 ^ 63; omega, szle (by show 1 * ((42 : Int) - rs.length).toNat ≤ 100000; omega), fun p hp => ⟨szle (by show 2 ≤ 100000; decide), fun L hL => ?_⟩⟩
      have rep : ∀ m, Paired (PrF [a, l] H11) (List.replicate m [V.ref e]).flatten (List.replicate m []) := fun m => by
        induction m with
        | zero => exact .nil
        | succ m ih =>
          rw [List.replicate_succ, List.flatten_cons, List.replicate_succ]
          exact .cons (sst _ _ _ _ s11 lE) ih
      have lP : LF [a, l] (PrF [a, l]) (upd H11 p (.lst (List.replicate ((42 : Int) - rs.length).toNat [V.ref e]).flatten)) (.ref p) (List.replicate ((42 : Int) - rs.length).toNat []) := LF.new sst (z6.same s611) hp (rep _)
      have s12 : Same H11 (upd H11 p (.lst (List.replicate ((42 : Int) - rs.length).toNat [V.ref e]).flatten)) := Rs.Same.new hp
      generalize upd H11 p (.lst (List.replicate ((42 : Int) - rs.length).toNat [V.ref e]).flatten) = H12 at lP s12 hL ⊢
      have s612 := s611.trans s12
      have sstL : SSt (LF [a, l] (PrF [a, l])) := LF.sst sst
      have lM : LF [a, l] (LF [a, l] (PrF [a, l])) (upd H12 L (.lst [.ref q2, .ref p])) (.ref L) [_, _] := LF.new sstL (z6.same s612) hL (.cons (sstL _ _ _ _ (((s10.trans s11)).trans s12) lB2) (.cons lP .nil))
      have s13 : Same H12 (upd H12 L (.lst [.ref q2, .ref p])) := Rs.Same.new hL
      generalize upd H12 L (.lst [.ref q2, .ref p]) = H13 at lM s13 ⊢
      have s613 := s612.trans s13
      refine ⟨_, rfl, a, l, _, rfl, rfl, by decide, by decide, B6.same s613, fun c H14 g0 g1 B14 k14 => ?_⟩
      have t14 := (B6.same s613).tup k14
      have lM := lM.but (fun v x q => q.but (stP t14 k14) k14) k14
      have LS14 := (sstL _ _ _ _ s613 LS6).but (stP t14 k14) k14
      have LR14 := (sstL _ _ _ _ s613 LR6).but (stP t14 k14) k14
      have k014 : But [a, l] H H14 := (k06.trans (But.same s613)).trans k14
      -- the end, whatever lies behind
      have fin : ∀ (v9 : V) (more : List (List Pr)), LF [a, l] (PrF [a, l]) H14 v9 more → more.length ≤ 42 → more.flatten.length ≤ 1 → (∀ x ∈ more, ∀ p ∈ x, RowSz p.2) →
          (tRet (tTup (tCons (tOp rCat (tOp rCat (tOp rCat (tSl (rSlL K) (tVar 2) tNoPart (tPart (tVar 3))) (tLst (tCons (tOp (rIxL K) (tVar 5) (tVar 8)) tNil))) (tSl (rSlL K) (tVar 2) (tPart (tOpC xAdd (tVar 3) (.int 1))) tNoPart)) (tVar 9)) (tCons (tVar 3) tNil))))
          { nx := fun _ H' => Q .non H', rt := Q } [some (.ref a), some ov, some rv, some (.int (n : Int)), some vr, some SV, x6, x7, some (.int (far : Int)), some v9] H14 := fun v9 more lv m42 m1 msz => by
        have hbad := bad _ (List.getElem_mem hfar)
        have z14 := B14.zin
        refine ⟨_, rfl, ?_⟩
        unfold tNoPart
        dsimp only
        refine ⟨_, rfl, _, rfl, cut_F sst z14 LR14 (i := 0) (j := n) (fun vs e => by rw [List.drop_zero]; exact cut_to (by omega)) fun p1 H15 s15 l15 => ⟨_, rfl, _, rfl, at_F ((sstL _ _ _ _ s15 LS14)) hfar rfl fun vx hx => ⟨szle (by show 1 ≤ 100000; decide), fun q1 hq1 => ?_⟩⟩⟩
        have sq : Same H15 (upd H15 q1 (.lst [vx])) := Rs.Same.new hq1
        have lq : LF [a, l] (PrF [a, l]) (upd H15 q1 (.lst [vx])) (.ref q1) [cs[far]] := LF.new sst (z14.same s15) hq1 (P2.one hx)
        generalize upd H15 q1 (.lst [vx]) = H16 at sq lq ⊢
        have s16 := s15.trans sq
        have lt : ((rs.drop 0).take n).length = n := by rw [List.drop_zero, List.length_take]; omega
        refine cat_F sst (z14.same s16) (sstL _ _ _ _ sq l15) lq (by rw [lt, List.length_singleton]; omega) fun p2 H17 s17 l17 => ?_
        have s017 := s16.trans s17
        refine ⟨_, rfl, _, rfl, _, _, rfl, rfl, ?_⟩
        refine ⟨_, rfl, ?_⟩
        dsimp only
        refine cut_F sst (z14.same s017) (sstL _ _ _ _ s017 LR14) (i := n + 1) (j := rs.length) (fun vs e => by
          rw [show ((n : Int) + 1) = ((n + 1 : Nat) : Int) by omega, cut_from (by omega), List.take_of_length_le (by rw [List.length_drop]; omega)]) fun p3 H18 s18 l18 => ?_
        have s018 := s017.trans s18
        have ld : ((rs.drop (n + 1)).take rs.length).length ≤ 39 := by rw [List.length_take, List.length_drop]; omega
        refine cat_F sst (z14.same s018) (sstL _ _ _ _ s18 l17) l18 (by rw [List.length_append, lt, List.length_singleton]; omega) fun p4 H19 s19 l19 => ⟨_, rfl, ?_⟩
        have s019 := s018.trans s19
        refine cat_F sst (z14.same s019) l19 (sstL _ _ _ _ s019 lv) (by rw [List.length_append, List.length_append, lt, List.length_singleton]; omega) fun D H20 s20 l20 => ⟨_, rfl, szle (by show 2 ≤ 100000; decide), fun t ht => ?_⟩
        have s020 := s019.trans s20
        have st : Same H20 (upd H20 t (.tup [.ref D, .int (n : Int)])) := Rs.Same.new ht
        have e9 : (rs.drop 0).take n ++ [cs[far]] ++ (rs.drop (n + 1)).take rs.length ++ more = putBad rs n cs[far] more := by
          unfold putBad
          rw [List.drop_zero, List.take_of_length_le (l := rs.drop (n + 1)) (by rw [List.length_drop]; omega)]
        rw [e9] at l20
        have t0 : H t = none := none_of_but (k014.trans (But.same s020)) ht ((z14.same s020).out ht)
        refine k t D _ n _ t0 upd_same (sstL _ _ _ _ st l20) (putBad_bad hn (by omega) good nd hbad.1) ?_ (fun x hx => ?_) ?_ ((B14.same s020).same st) ((k014.trans (But.same s020)).trans (But.same st))
        · rw [← e9]
          simp only [List.length_append, lt, List.length_singleton]
          omega
        · unfold putBad at hx
          simp only [List.mem_append, List.mem_singleton] at hx
          have inR : x ∈ rs → x.length ≤ 1000 ∧ ∀ p ∈ x, RowSz p.2 := fun h => ⟨by
            have := (List.sublist_flatten_of_mem h).length_le
            omega, fun p hp => RowSz.of (isRunB_row (good x h) p hp) gk.le⟩
          rcases hx with ((h | rfl) | h) | h
          · exact inR (List.mem_of_mem_take h)
          · exact ⟨by have := hbad.2.1; omega, hbad.2.2⟩
          · exact inR (List.mem_of_mem_drop h)
          · exact ⟨by
              have := (List.sublist_flatten_of_mem h).length_le
              omega, msz x h⟩
        · unfold putBad
          simp only [List.flatten_append, List.length_append]
          have a1 := flat_len (rs := rs) n
          have a2 : (rs.drop (n + 1)).flatten.length ≤ rs.flatten.length := by
            have : rs.flatten = (rs.take (n + 1)).flatten ++ (rs.drop (n + 1)).flatten := by rw [← List.flatten_append, List.take_append_drop]
            rw [this, List.length_append]
            omega
          have a3 := hbad.2.1
          have a4 : ([cs[far]] : List (List Pr)).flatten.length = cs[far].length := by simp
          omega
      refine ⟨rfl, .inr ⟨_, rfl, ?_⟩⟩
      generalize decide (V.int c = V.int 0) = bo
      cases bo with
      | false =>
        refine at_F lM (i := 0) (j := if (false : Bool) = true then (1 : Int) else 0) (by simp) rfl fun v9 hv => fin v9 _ hv (by show 1 ≤ 42; decide) (by show 1 ≤ 1; decide) fun x hx p hp => ?_
        rw [List.mem_singleton.mp hx] at hp
        rw [List.mem_singleton.mp hp]
        exact ⟨Nat.zero_le _, fun s hs => nomatch hs⟩
      | true =>
        refine at_F lM (i := 1) (j := if (true : Bool) = true then (1 : Int) else 0) (by simp) rfl fun v9 hv => fin v9 _ hv (by show (List.replicate ((42 : Int) - rs.length).toNat ([] : List Pr)).length ≤ 42; rw [List.length_replicate]; omega) (by show (List.replicate ((42 : Int) - rs.length).toNat ([] : List Pr)).flatten.length ≤ 1; rw [flat_rep]; exact Nat.zero_le _) fun x hx p hp => ?_
        rw [List.eq_of_mem_replicate hx] at hp
        exact nomatch hp
    -- [(-1, run[0][1])] + run
    refine ⟨_, rfl, at_F hr (i := 0) rpos rfl fun v0 hv0 => ?_⟩
    obtain ⟨w0, hv0, hw0⟩ := id hv0
    refine ixT hv0 (j := 1) rfl rfl ⟨szle (by show 2 ≤ 100000; decide), fun T1 hT1 => ⟨szle (by show 1 ≤ 100000; decide), fun q1 hq1 => ⟨_, rfl, ?_⟩⟩⟩
    have z1 := B1.zin
    obtain ⟨s2, lA⟩ := one_F (num := -1) z1 hw0 hT1 hq1
    generalize upd (upd H1 T1 (.tup [.int (-1), w0])) q1 (.lst [.ref T1]) = H2 at s2 lA ⊢
    have z2 := z1.same s2
    have sst : SSt (PrF [a, l]) := LF.sst st
    refine cat_F st z2 lA (sst _ _ _ _ s2 hr) (by simp; omega) fun c0 H3 s3 l0 => ?_
    have s03 := s2.trans s3
    -- run + run[-1:]
    refine ⟨_, rfl, _, rfl, _, rfl, ?_⟩
    unfold tNoPart
    dsimp only
    refine cut_F st (z1.same s03) (sst _ _ _ _ s03 hr) (i := r.length - 1) (j := 1) (fun vs e => cut_tail e rpos) fun p4 H4 s4 l4 => ?_
    have s04 := s03.trans s4
    refine cat_F st (z1.same s04) (sst _ _ _ _ s04 hr) l4 (by simp; omega) fun c1 H5 s5 l1 => ?_
    have s05 := s04.trans s5
    -- [(0, ())] + run
    refine ⟨sz0, fun E0 hE0 => ⟨szle (by show 2 ≤ 100000; decide), fun T2 hT2 => ⟨szle (by show 1 ≤ 100000; decide), fun q2 hq2 => ⟨_, rfl, ?_⟩⟩⟩⟩
    have sE : Same H5 (upd H5 E0 (.tup [])) := Rs.Same.new hE0
    have rE : RowAt (upd H5 E0 (.tup [])) (.ref E0) [] := ⟨E0, rfl, upd_same⟩
    generalize upd H5 E0 (.tup []) = H6 at sE rE hT2 hq2 ⊢
    have s06 := s05.trans sE
    obtain ⟨s7, lB⟩ := one_F (num := 0) (z1.same s06) rE hT2 hq2
    generalize upd (upd H6 T2 (.tup [.int 0, .ref E0])) q2 (.lst [.ref T2]) = H7 at s7 lB ⊢
    have s07 := s06.trans s7
    refine cat_F st (z1.same s07) lB (sst _ _ _ _ s07 hr) (by simp; omega) fun c2 H8 s8 l2 => ⟨szle (by show 3 ≤ 100000; decide), fun S hS => ?_⟩
    have s08 := s07.trans s8
    have l0' := (sst _ _ _ _ (((s4.trans s5).trans (sE.trans s7)).trans s8) l0).cons hS
    have l1' := (sst _ _ _ _ ((sE.trans s7).trans s8) l1).cons hS
    have l2' := l2.cons hS
    have sS : Same H8 (upd H8 S (.lst [.ref c0, .ref c1, .ref c2])) := Rs.Same.new hS
    have eS : upd H8 S (.lst [.ref c0, .ref c1, .ref c2]) S = some _ := upd_same
    have hS1 : H1 S = none := s08.free hS
    have SZ : S ∉ [a, l] := (z1.same s08).out hS
    generalize upd H8 S (.lst [.ref c0, .ref c1, .ref c2]) = H9 at sS eS ⊢
    have s09 := s08.trans sS
    have sst2 : SSt (PrF (S :: [a, l])) := LF.sst st
    have l0 := sst2 _ _ _ _ sS l0'
    have l1 := sst2 _ _ _ _ sS l1'
    have l2 := sst2 _ _ _ _ sS l2'
    have hrS : PrF (S :: [a, l]) H9 vr r := sst2 _ _ _ _ sS ((sst _ _ _ _ s08 hr).cons hS)
    clear l0' l1' l2' lA lB l4 rE
    have b0 : BadX ks o r ([((-1 : Int), r[0].2)] ++ r) := ⟨.inl (bad_one (p := ((-1 : Int), r[0].2)) (by simp) (.inl (by show (-1 : Int) < 0; decide))), by simp, fun p hp => by
      rcases List.mem_append.mp hp with h | h
      · rw [List.mem_singleton.mp h]
        exact rsz r[0] (List.getElem_mem rpos)
      · exact rsz p h⟩
    have b2 : BadX ks o r ([((0 : Int), ([] : Row))] ++ r) := ⟨.inl (bad_one (p := ((0 : Int), ([] : Row))) (by simp) (.inr (by
      unfold isRow
      rw [decide_eq_false (by
        have := gk.pos
        show ¬ 0 = ks.length
        omega)]
      rfl))), by simp, fun p hp => by
      rcases List.mem_append.mp hp with h | h
      · rw [List.mem_singleton.mp h]
        exact ⟨Nat.zero_le _, fun s hs => nomatch hs⟩
      · exact rsz p h⟩
    have rlast : (r.drop (r.length - 1)).take 1 = [r[r.length - 1]'(by omega)] := by
      rw [List.drop_eq_getElem_cons (by omega)]
      rfl
    rw [rlast] at l1
    have b1 : BadX ks o r (r ++ [r[r.length - 1]'(by omega)]) := ⟨.inr (fun z => by
      rw [List.map_append] at z
      exact (List.nodup_append.mp z).2.2 (r[r.length - 1]'(by omega)).1 (List.mem_map.mpr ⟨_, List.getElem_mem _, rfl⟩) _ (by simp) rfl), by simp, fun p hp => by
      rcases List.mem_append.mp hp with h | h
      · exact rsz p h
      · rw [List.mem_singleton.mp h]
        exact rsz _ (List.getElem_mem _)⟩
    -- some.append(run + [(10 ** 12, run[-1][1] + (0,))])
    refine ⟨_, rfl, .inl ⟨rfl, _, SqL.of eS⟩, _, rfl, ?_⟩
    have hr9 := sst _ _ _ _ s09 hr
    have z9 : ZIn (S :: [a, l]) H9 := (z1.same s09).cons eS
    refine ⟨_, _, rfl, rfl, ⟨by decide, by decide, by decide⟩, _, rfl, last_F hr9 (by omega) fun vL hL => ?_⟩
    have rowL := isRunB_row rgood _ (List.getElem_mem (by omega : r.length - 1 < r.length))
    have szL := rsz _ (List.getElem_mem (by omega : r.length - 1 < r.length))
    obtain ⟨wL, hvL, hwL⟩ := id hL
    refine ixT hvL (j := 1) rfl rfl ⟨szle (by show 1 ≤ 100000; decide), fun E1 hE1 => ?_⟩
    generalize eL : r[r.length - 1]'(by omega) = pL at *
    obtain ⟨tL, rfl, htL⟩ := id hwL
    have sE1 : Same H9 (upd H9 E1 (.tup [.int 0])) := Rs.Same.new hE1
    have eE1 : upd H9 E1 (.tup [.int 0]) E1 = some _ := upd_same
    generalize upd H9 E1 (.tup [.int 0]) = H10 at sE1 eE1 ⊢
    have lenL := isRow_len rowL
    have kp := gk.pos
    refine ⟨tL, E1, _, _, rfl, rfl, SqT.of (sE1 _ _ htL), SqT.of eE1, szle (by have := gk.le; rw [List.length_map]; show pL.2.length + 1 ≤ 100000; omega), fun z => ?_, (fun _ z => nomatch z), fun _ _ P3 hP3 => ⟨szle (by show 2 ≤ 100000; decide), fun T3 hT3 => ⟨szle (by show 1 ≤ 100000; decide), fun q3 hq3 => ?_⟩⟩⟩
    · have := congrArg List.length z
      rw [List.length_map] at this
      have : pL.2.length = 0 := this
      omega
    have sP3 : Same H10 (upd H10 P3 (.tup (pL.2.map kV ++ [.int 0]))) := Rs.Same.new hP3
    have rP3 : RowAt (upd H10 P3 (.tup (pL.2.map kV ++ [.int 0]))) (.ref P3) (pL.2 ++ [Sum.inl 0]) := ⟨P3, rfl, by rw [upd_same, List.map_append]; rfl⟩
    generalize upd H10 P3 (.tup (pL.2.map kV ++ [.int 0])) = H11 at sP3 rP3 hT3 hq3 ⊢
    have s011 : Same H9 H11 := sE1.trans sP3
    obtain ⟨s12, lC⟩ := one_F (num := 10 ^ (12 : Int).toNat) (z9.same s011) rP3 hT3 hq3
    generalize upd (upd H11 T3 (.tup [.int (10 ^ (12 : Int).toNat), .ref P3])) q3 (.lst [.ref T3]) = H12 at s12 lC ⊢
    have s912 := s011.trans s12
    have badL : isRow ks (pL.2 ++ [Sum.inl 0]) = false := by
      unfold isRow
      rw [decide_eq_false (by rw [List.length_append, List.length_singleton]; omega)]
      rfl
    have b3 : BadX ks o r (r ++ [((10 : Int) ^ (12 : Int).toNat, pL.2 ++ [Sum.inl 0])]) := ⟨.inl (bad_one (p := ((10 : Int) ^ (12 : Int).toNat, pL.2 ++ [Sum.inl 0])) (by simp) (.inr badL)), by simp, fun p hp => by
      rcases List.mem_append.mp hp with h | h
      · exact rsz p h
      · rw [List.mem_singleton.mp h]
        refine ⟨?_, fun s hs => ?_⟩
        · show (pL.2 ++ [Sum.inl 0]).length ≤ 1000
          rw [List.length_append, List.length_singleton]
          have := gk.le
          omega
        · rcases List.mem_append.mp hs with z | z
          · exact szL.2 s z
          · exact nomatch List.mem_singleton.mp z⟩
    refine cat_F st (z9.same s912) (sst2 _ _ _ _ s912 hrS) lC (by simp; omega) fun c3 H13 s13 l3 => ?_
    have s913 := s912.trans s13
    have e13 := s913 _ _ eS
    refine ⟨_, _, _, rfl, rfl, e13, szlt (by show 3 < 100000; decide), ?_⟩
    have t14 : TupLe H13 (upd H13 S (.lst ([.ref c0, .ref c1, .ref c2] ++ [.ref c3]))) := (TupLe.refl H13).list e13
    have mv : ∀ {v x}, PrF (S :: [a, l]) H13 v x → PrF [a, l] (upd H13 S (.lst ([.ref c0, .ref c1, .ref c2] ++ [.ref c3]))) v x := fun h => (h.mut fun v x q => PairAt.st _ _ _ _ t14 q).tail
    have LS : LF [a, l] (PrF [a, l]) (upd H13 S (.lst ([.ref c0, .ref c1, .ref c2] ++ [.ref c3]))) (.ref S) [_, _, _, _] :=
      ⟨S, _, rfl, SZ, upd_same, .cons (mv (sst2 _ _ _ _ s913 l0)) (.cons (mv (sst2 _ _ _ _ s913 l1)) (.cons (mv (sst2 _ _ _ _ s913 l2)) (.cons (mv l3) .nil)))⟩
    have k14 : But [a, l] H (upd H13 S (.lst ([.ref c0, .ref c1, .ref c2] ++ [.ref c3]))) := (k1.trans (But.same (s09.trans s913))).mut (none_of_but k1 hS1 SZ)
    have B14 : Box (upd H13 S (.lst ([.ref c0, .ref c1, .ref c2] ++ [.ref c3]))) a l := by
      have B13 := B1.same (s09.trans s913)
      exact B13.keep (fun o e => up e fun z => SZ (by rw [← z]; simp)) (fun o e => up e fun z => SZ (by rw [← z]; simp))
    have hr14 := mv (sst2 _ _ _ _ s913 hrS)
    generalize upd H13 S (.lst ([.ref c0, .ref c1, .ref c2] ++ [.ref c3])) = H14 at LS k14 B14 hr14 ⊢
    clear mv t14 l0 l1 l2 l3
    have bad4 : ∀ x ∈ [[((-1 : Int), r[0].2)] ++ r, r ++ [pL], [((0 : Int), ([] : Row))] ++ r, r ++ [((10 : Int) ^ (12 : Int).toNat, pL.2 ++ [Sum.inl 0])]], BadX ks o r x := fun x hx => by
      simp only [List.mem_cons, List.not_mem_nil, or_false] at hx
      rcases hx with rfl | rfl | rfl | rfl
      · exact b0
      · exact b1
      · exact b2
      · exact b3
    have lcs : [[((-1 : Int), r[0].2)] ++ r, r ++ [pL], [((0 : Int), ([] : Row))] ++ r, r ++ [((10 : Int) ^ (12 : Int).toNat, pL.2 ++ [Sum.inl 0])]].length = 4 := rfl
    generalize [[((-1 : Int), r[0].2)] ++ r, r ++ [pL], [((0 : Int), ([] : Row))] ++ r, r ++ [((10 : Int) ^ (12 : Int).toNat, pL.2 ++ [Sum.inl 0])]] = cs at LS bad4 lcs
    refine ⟨_, rfl, len_F hr14 ⟨_, _, rfl, rfl, _, rfl, ?_⟩⟩
    by_cases hl2 : (r.length : Int) > 1
    · rw [decide_eq_true hl2]
      refine ⟨_, rfl, _, rfl, len_F hr14 ⟨_, _, rfl, rfl, a, l, _, rfl, rfl, by omega, by omega, B14, fun kk0 H15 h0 h1 B15 k15 => ⟨_, _, rfl, rfl, ?_⟩⟩⟩
      obtain ⟨kk, hkk⟩ : ∃ kk : Nat, (1 + kk0) = (kk : Int) := ⟨(1 + kk0).toNat, by omega⟩
      dsimp only
      rw [hkk]
      have kl : kk < r.length := by omega
      have kp : 1 ≤ kk := by omega
      have stP : ∀ {H H' : Hp}, TupLe H H' → But [a, l] H H' → ∀ v x, PrF [a, l] H v x → PrF [a, l] H' v x := fun t k v x q => q.but (fun v x q => PairAt.st _ _ _ _ t q) k
      have LS15 := LS.but (stP (B14.tup k15) k15) k15
      have hr15 := stP (B14.tup k15) k15 _ _ hr14
      refine ⟨_, rfl, _, _, rfl, rfl, ⟨by decide, by decide, by decide⟩, a, l, _, rfl, rfl, by decide, by decide, B15, fun j0 H16 i0 i1 B16 k16 => ⟨_, _, rfl, rfl, _, rfl, _, rfl, ?_⟩⟩
      have LS16 := LS15.but (stP (B15.tup k16) k16) k16
      have hr16 := stP (B15.tup k16) k16 _ _ hr15
      have k016 := (k14.trans k15).trans k16
      refine at_F hr16 (i := kk) kl rfl fun vk hk => ?_
      obtain ⟨wk, hvk, hwk⟩ := id hk
      refine ixT hvk (j := 1) rfl rfl ⟨szle (by show 2 ≤ 100000; decide), fun T hT => ⟨szle (by show 1 ≤ 100000; decide), fun q hq => ?_⟩⟩
      obtain ⟨s17, lW⟩ := one_F (num := -1 - j0) B16.zin hwk hT hq
      generalize upd (upd H16 T (.tup [.int (-1 - j0), wk])) q (.lst [.ref T]) = H17 at s17 lW ⊢
      have sstL : SSt (LF [a, l] (PrF [a, l])) := LF.sst sst
      have LS17 := sstL _ _ _ _ s17 LS16
      have hr17 := sst _ _ _ _ s17 hr16
      have k017 := k016.trans (But.same s17)
      have B17 := B16.same s17
      obtain ⟨g, gv, rfl, gz, eg, pg⟩ := id hr17
      refine ⟨_, rfl, _, rfl, g, gv, rfl, SqL.of eg, fun p1 hp1 => ⟨_, rfl, ?_⟩⟩
      have s18 : Same H17 (upd H17 p1 (.lst gv.reverse)) := Rs.Same.new hp1
      have lRv : PrF [a, l] (upd H17 p1 (.lst gv.reverse)) (.ref p1) r.reverse := LF.new pair_sst B17.zin hp1 (paired_rev pg)
      generalize upd H17 p1 (.lst gv.reverse) = H18 at s18 lRv ⊢
      have z17 := B17.zin
      have hr18 := sst _ _ _ _ s18 hr17
      have c1 : ∀ vs : List V, vs.length = r.length → cutV vs none (some (kk : Int)) = (vs.drop 0).take kk := fun vs e => by rw [List.drop_zero]; exact cut_to (by omega)
      have c2 : ∀ vs : List V, vs.length = r.length → cutV vs (some ((kk : Int) + 1)) none = (vs.drop (kk + 1)).take r.length := fun vs e => by
        rw [show ((kk : Int) + 1) = ((kk + 1 : Nat) : Int) by omega, cut_from (by omega), List.take_of_length_le (by rw [List.length_drop]; omega)]
      have lk1 : ((r.drop 0).take kk).length = kk := by rw [List.drop_zero, List.length_take]; omega
      have lk2 : ((r.drop (kk + 1)).take r.length).length ≤ 120 := by rw [List.length_take]; omega
      dsimp only
      refine ⟨_, rfl, _, rfl, cut_F st (z17.same s18) hr18 (i := 0) (j := kk) c1 fun p2 H19 s19 l19 => ⟨_, rfl, ?_⟩⟩
      have s1719 := s18.trans s19
      refine cat_F st (z17.same s1719) l19 (sst _ _ _ _ s1719 lW) (by rw [lk1, List.length_singleton]; omega) fun p3 H20 s20 l20 => ⟨_, rfl, _, rfl, _, _, rfl, rfl, _, rfl, ?_⟩
      have s1720 := s1719.trans s20
      dsimp only
      refine cut_F st (z17.same s1720) (sst _ _ _ _ s1720 hr17) (i := kk + 1) (j := r.length) c2 fun p4 H21 s21 l21 => ?_
      have s1721 := s1720.trans s21
      refine cat_F st (z17.same s1721) (sst _ _ _ _ s21 l20) l21 (by rw [List.length_append, lk1, List.length_singleton]; omega) fun c5 H22 s22 l22 => ⟨szle (by show 2 ≤ 100000; decide), fun q5 hq5 => ?_⟩
      have s1722 := s1721.trans s22
      have lN : LF [a, l] (PrF [a, l]) (upd H22 q5 (.lst [.ref p1, .ref c5])) (.ref q5) [_, _] := LF.new sst (z17.same s1722) hq5 (.cons (sst _ _ _ _ (((s19.trans s20).trans s21).trans s22) lRv) (.cons l22 .nil))
      have s23 : Same H22 (upd H22 q5 (.lst [.ref p1, .ref c5])) := Rs.Same.new hq5
      generalize upd H22 q5 (.lst [.ref p1, .ref c5]) = H23 at lN s23 ⊢
      have s1723 := s1722.trans s23
      refine cat_F sst (z17.same s1723) (sstL _ _ _ _ s1723 LS17) lN (by rw [lcs]; show 4 + 2 ≤ 100000; decide) fun S2 H24 s24 LS24 => ?_
      have s1724 := s1723.trans s24
      have B24 := B17.same s1724
      have z24 := B24.zin
      have hr24 := sst _ _ _ _ s1724 hr17
      have k024 := k017.trans (But.same s1724)
      refine ⟨_, rfl, _, rfl, ?_⟩
      dsimp only
      refine ⟨_, rfl, _, rfl, cut_F st z24 hr24 (i := 0) (j := kk) c1 fun p6 H25 s25 l25 => ?_⟩
      have B25 := B24.same s25
      refine ⟨_, rfl, _, rfl, _, rfl, a, l, _, rfl, rfl, by omega, by omega, B25, fun jj0 H26 y0 y1 B26 k26 => ?_⟩
      obtain ⟨jj, rfl⟩ : ∃ jj : Nat, jj0 = (jj : Int) := ⟨jj0.toNat, by omega⟩
      have t26 := B25.tup k26
      have hr26 := stP t26 k26 _ _ (sst _ _ _ _ s25 hr24)
      have l26 := stP t26 k26 _ _ l25
      have LS26 := (sstL _ _ _ _ s25 LS24).but (stP t26 k26) k26
      have k026 := (k024.trans (But.same s25)).trans k26
      have z26 := B26.zin
      have jl : jj < kk := by omega
      refine at_F hr26 (i := jj) (by omega) rfl fun vj hj => ?_
      obtain ⟨wj, hvj, _⟩ := id hj
      refine ixT hvj (j := 0) rfl rfl ⟨_, rfl, _, rfl, at_F hr26 (i := kk) kl rfl fun vm hm => ?_⟩
      obtain ⟨wm, hvm, hwm⟩ := id hm
      refine ixT hvm (j := 1) rfl rfl ⟨szle (by show 2 ≤ 100000; decide), fun T6 hT6 => ⟨szle (by show 1 ≤ 100000; decide), fun q6 hq6 => ?_⟩⟩
      have jr : jj < r.length := by omega
      obtain ⟨s27, lV⟩ := one_F (num := r[jj].1) z26 hwm hT6 hq6
      generalize upd (upd H26 T6 (.tup [.int r[jj].1, wm])) q6 (.lst [.ref T6]) = H27 at s27 lV ⊢
      refine cat_F st (z26.same s27) (sst _ _ _ _ s27 l26) lV (by rw [lk1, List.length_singleton]; omega) fun p7 H28 s28 l28 => ⟨_, rfl, _, rfl, _, _, rfl, rfl, _, rfl, ?_⟩
      have s2628 := s27.trans s28
      dsimp only
      refine cut_F st (z26.same s2628) (sst _ _ _ _ s2628 hr26) (i := kk + 1) (j := r.length) c2 fun p8 H29 s29 l29 => ?_
      have s2629 := s2628.trans s29
      refine cat_F st (z26.same s2629) (sst _ _ _ _ s29 l28) l29 (by rw [List.length_append, lk1, List.length_singleton]; omega) fun c6 H30 s30 l30 => ⟨szle (by show 1 ≤ 100000; decide), fun q7 hq7 => ?_⟩
      have s2630 := s2629.trans s30
      have s31 : Same H30 (upd H30 q7 (.lst [.ref c6])) := Rs.Same.new hq7
      have e7 : upd H30 q7 (.lst [.ref c6]) q7 = some _ := upd_same
      generalize upd H30 q7 (.lst [.ref c6]) = H31 at s31 e7 ⊢
      have s2631 := s2630.trans s31
      refine ⟨_, _, _, rfl, rfl, e7, by decide, by decide, szle (by show 1 * 3 ≤ 100000; decide), fun q8 hq8 => ?_⟩
      have lO : LF [a, l] (PrF [a, l]) (upd H31 q8 (.lst (List.replicate (3 : Int).toNat [V.ref c6]).flatten)) (.ref q8) [_, _, _] := LF.new sst (z26.same s2631) hq8 (.cons (sst _ _ _ _ s31 l30) (.cons (sst _ _ _ _ s31 l30) (.cons (sst _ _ _ _ s31 l30) .nil)))
      have s32 : Same H31 (upd H31 q8 (.lst (List.replicate (3 : Int).toNat [V.ref c6]).flatten)) := Rs.Same.new hq8
      generalize upd H31 q8 (.lst (List.replicate (3 : Int).toNat [V.ref c6]).flatten) = H32 at lO s32 ⊢
      have s2632 := s2631.trans s32
      refine cat_F sst (z26.same s2632) (sstL _ _ _ _ s2632 LS26) lO (by rw [List.length_append, lcs]; show 4 + 2 + 3 ≤ 100000; decide) fun S3 H33 s33 LS33 => ?_
      have s2633 := s2632.trans s33
      refine stC _ _ H33 _ _ LS33 (fun x hx => ?_) (by rw [List.length_append, List.length_append, lcs]; omega) (by rw [List.length_append, List.length_append, lcs]; show 4 + 2 + 3 ≤ 20; decide) (B26.same s2633) (k026.trans (But.same s2633))
      have mid : ∀ num : Int, ((r.drop 0).take kk ++ [(num, r[kk].2)] ++ (r.drop (kk + 1)).take r.length).length ≤ r.length + 1 ∧ ∀ p ∈ (r.drop 0).take kk ++ [(num, r[kk].2)] ++ (r.drop (kk + 1)).take r.length, RowSz p.2 := fun num => ⟨by
        rw [List.length_append, List.length_append, lk1, List.length_singleton, List.length_take, List.length_drop]
        omega, fun p hp => by
        rcases List.mem_append.mp hp with h | h
        · rcases List.mem_append.mp h with h | h
          · exact rsz p (List.mem_of_mem_drop (List.mem_of_mem_take h))
          · rw [List.mem_singleton.mp h]
            exact rsz r[kk] (List.getElem_mem kl)
        · exact rsz p (List.mem_of_mem_drop (List.mem_of_mem_take h))⟩
      have bB : BadX ks o r ((r.drop 0).take kk ++ [(r[jj].1, r[kk].2)] ++ (r.drop (kk + 1)).take r.length) := ⟨.inr fun z => by
        rw [List.map_append] at z
        have z := (List.nodup_append.mp z).1
        rw [List.map_append] at z
        refine (List.nodup_append.mp z).2.2 r[jj].1 (List.mem_map.mpr ⟨r[jj], ?_, rfl⟩) _ (by simp) rfl
        rw [List.drop_zero]
        exact List.mem_take_iff_getElem.mpr ⟨jj, by omega, rfl⟩, mid _⟩
      simp only [List.mem_append, List.mem_cons, List.not_mem_nil, or_false] at hx
      rcases hx with (h | rfl | rfl) | rfl | rfl | rfl
      · exact bad4 x h
      · exact ⟨.inl (bad_rev hcol rgood (by omega)), by rw [List.length_reverse]; omega, fun p hp => rsz p (List.mem_reverse.mp hp)⟩
      · exact ⟨.inl (bad_one (p := (-1 - j0, r[kk].2)) (by simp) (.inl (by show -1 - j0 < 0; omega))), mid _⟩
      · exact bB
      · exact bB
      · exact bB
    · rw [decide_eq_false hl2]
      exact stC _ cs H14 none none LS bad4 (by omega) (by omega) B14 k14
end Rs

namespace Rs
open PySem PySem.Spec PyProof.Rows L2
open LamX
theorem RunsF.lf {Z : List Addr} {H : Hp} {t : Addr} {rs : List (List Pr)} (h : RunsF Z H t rs) : LF Z (PrF Z) H (.ref t) rs := by
  obtain ⟨n, vs, e, p⟩ := h
  exact ⟨t, vs, rfl, n, e, P2.mono (fun v y q => let ⟨g, e, m, ws, a, b⟩ := q; ⟨g, ws, e, m, a, b⟩) p⟩
theorem LF.lst {Z : List Addr} {H : Hp} {t : Addr} {rs : List (List Pr)} (h : LF Z (PrF Z) H (.ref t) rs) : Lst RunV H t rs := by
  obtain ⟨g, vs, e, _, q, p⟩ := h
  cases e
  exact ⟨vs, q, P2.mono (fun v y q => let ⟨g, ws, e, _, a, b⟩ := q; ⟨g, e, ws, a, b⟩) p⟩
theorem up_isRun {ks : List Str} {o : Ord} {xs : List Pr} (up : Up o xs) (h : ∀ p ∈ xs, isRow ks p.2 = true ∧ 0 ≤ p.1) : isRunB ks o xs = true := by
  unfold isRunB
  rw [Bool.and_eq_true, List.all_eq_true, List.all_eq_true]
  refine ⟨fun p hp => by rw [(h p hp).1, decide_eq_true (h p hp).2]; rfl, fun i hi => ?_⟩
  have hi := List.mem_range.mp hi
  have a := List.pairwise_iff_getElem.mp up i (i + 1) (by omega) (by omega) (by omega)
  rw [List.getD_eq_getElem?_getD, List.getD_eq_getElem?_getD, List.getElem?_eq_getElem (by omega), List.getElem?_eq_getElem (by omega)]
  exact a
theorem bad_twice {ks : List Str} {o : Ord} {rs : List (List Pr)} {j : Nat} (hj : j < rs.length) (l40 : rs.length ≤ 40) (ne : ∀ r ∈ rs, r ≠ []) (good : ∀ r ∈ rs, isRunB ks o r = true) (nd : (rs.flatten.map (·.1)).Nodup) : BadRun ks o (rs ++ [(rs[j]).take 1]) rs.length := by
  refine ⟨by rw [List.length_append, List.length_singleton]; omega, l40, .inr (.inr fun z => ?_), fun i hi => ⟨?_, ?_⟩⟩
  · rw [List.take_of_length_le (by rw [List.length_append, List.length_singleton]; omega), List.flatten_append, List.map_append] at z
    have nj := ne _ (List.getElem_mem hj)
    cases q : rs[j] with
    | nil => exact nj q
    | cons p r =>
      refine (List.nodup_append.mp z).2.2 p.1 (List.mem_map.mpr ⟨p, List.mem_flatten.mpr ⟨_, List.getElem_mem hj, by rw [q]; exact List.mem_cons_self ..⟩, rfl⟩) p.1 ?_ rfl
      rw [q]
      simp
  · rw [List.getD_eq_getElem?_getD, List.getElem?_append_left hi, List.getElem?_eq_getElem hi]
    exact good _ (List.getElem_mem hi)
  · rw [List.take_append_of_le_length (by omega)]
    refine nd.sublist (List.Sublist.map _ ?_)
    have : rs.flatten = (rs.take (i + 1)).flatten ++ (rs.drop (i + 1)).flatten := by rw [← List.flatten_append, List.take_append_drop]
    rw [this]
    exact List.sublist_append_left ..
theorem bad_many {ks : List Str} {o : Ord} : BadRun ks o (List.replicate 41 []) 40 := by
  refine ⟨by rw [List.length_replicate]; decide, Nat.le_refl _, .inl (Nat.le_refl _), fun i hi => ⟨?_, ?_⟩⟩
  · rw [rep_nil]
    rfl
  · rw [List.take_replicate, flat_rep]
    exact List.nodup_nil
theorem BadRun.eq {ks : List Str} {o : Ord} {rs : List (List Pr)} {n m : Nat} (a : BadRun ks o rs n) (b : BadRun ks o rs m) : n = m := by
  obtain ⟨a1, h40, a2, a3⟩ := a
  obtain ⟨b1, m40, b2, b3⟩ := b
  rcases Nat.lt_trichotomy n m with h | h | h
  · have q := b3 n h
    rcases a2 with z | z | z
    · omega
    · rw [q.1] at z
      exact nomatch z
    · exact (z q.2).elim
  · exact h
  · have q := a3 m h
    rcases b2 with z | z | z
    · omega
    · rw [q.1] at z
      exact nomatch z
    · exact (z q.2).elim
theorem BadRun.not {ks : List Str} {o : Ord} {rs : List (List Pr)} {n : Nat} (a : BadRun ks o rs n) (l : rs.length ≤ 40) (good : ∀ r ∈ rs, isRunB ks o r = true) (nd : (rs.flatten.map (·.1)).Nodup) : False := by
  obtain ⟨a1, _, a2, _⟩ := a
  rcases a2 with z | z | z
  · omega
  · rw [List.getD_eq_getElem?_getD, List.getElem?_eq_getElem a1] at z
    have := good _ (List.getElem_mem a1)
    exact nomatch (this.symm.trans z)
  · refine z (nd.sublist (List.Sublist.map _ ?_))
    have : rs.flatten = (rs.take (n + 1)).flatten ++ (rs.drop (n + 1)).flatten := by rw [← List.flatten_append, List.take_append_drop]
    rw [this]
    exact List.sublist_append_left ..
theorem rErr_number {K : PySem.W.Frag} {H : Hp} {Q : VK} {dd : Addr} {v : V} (E : ErrIs K "BadRuns") (M : ErrMk K "BadRuns" "number") (e : H dd = some (.xd [(("number" : Str), v)])) (k : ∀ u H', H u = none → Same H H' → H' u = some (.tup [.str "BadRuns", v]) → Q (.ref u) H') : rErr K (.ref (He.ga K "BadRuns")) (some dd) H Q := by
  refine ⟨"BadRuns", v, rfl, E, ?_, fun u H' hu s e => k u H' hu (fun b o q => s b o q) e⟩
  unfold ErrNo
  rw [if_pos (.inl rfl), if_pos rfl]
  exact ⟨dd, _, ⟨E.c.hg, E.c.hk, E.c.hs, E.c.hd⟩, M.noF, rfl, e, by simp [List.lookup]⟩
theorem e_le {e h n : Nat} (he : e = 0 ∨ 2 ^ e < 2 * n) (hh : n ≤ 2 ^ h) : e ≤ h := by
  rcases he with rfl | he
  · exact Nat.zero_le _
  · rcases Nat.lt_or_ge h e with c | c
    · have : 2 ^ (h + 1) ≤ 2 ^ e := Nat.pow_le_pow_right (by decide) c
      rw [Nat.pow_succ] at this
      omega
    · exact c
end Rs

namespace Rs
open PySem PySem.Spec PyProof.Rows L2
open LamX
theorem extN_same {H H' : Hp} (s : Same H H') : ExtN H H' := fun b o e _ => s b o e
theorem fullL {K : PySem.W.Frag} {Z : List Addr} {lp : Addr} {rs : List (List Pr)} {H : Hp} {Q : VK} {x0 x1 x2 x3 x4 x5 x7 x8 x9 x10 x11 x12 x13 x14 x15 x16 x17 x18 x19 x20 x21 : Option V} (zi : ZIn Z H) (L : LF Z (PrF Z) H (.ref lp) rs) (few : rs.length ≤ 1000)
    (k : ∀ p H', Same H H' → LF Z (PrF Z) H' (.ref p) (rs.filter fun r => !r.isEmpty) → Q (.ref p) H') :
    (tLc (iList K (tVar 6)) (gName 8) (tTest (tOp (xNeE K) (tVar 8) (tLst tNil))) (tVar 8) [8]) [x0, x1, x2, x3, x4, x5, some (.ref lp), x7, x8, x9, x10, x11, x12, x13, x14, x15, x16, x17, x18, x19, x20, x21] H Q := by
  obtain ⟨_, vs, e, nz, el, pl⟩ := L
  cases e
  have lp' := pl.length
  refine ⟨_, rfl, lp, rfl, ⟨_, SqL.of el⟩, fun D hD => ?_⟩
  refine lc_list (K := K) (a := lp) (xs := vs) (fun j H' => ∃ ws, H' D = some (.lst ws) ∧ Paired (PrF Z H) ws ((rs.take j).filter fun r => !r.isEmpty) ∧ Same H H') ⟨[], upd_same, .nil, Rs.Same.new hD⟩ ?_ ?_ ?_
  · rintro j H' _ ⟨_, _, _, s'⟩
    exact SqL.of (s' _ _ el)
  · rintro j v H' hj ⟨ws, hd, pw, s'⟩
    obtain ⟨r, hr, g, lv, rfl, ng, eg, pr⟩ := P2.get pl hj
    have lw := pw.length
    have hws : ws.length ≤ j := by
      rw [lw]
      refine Nat.le_trans (List.length_filter_le _ _) ?_
      rw [List.length_take]
      omega
    have hjl := (List.getElem?_eq_some_iff.mp hj).1
    have lr := pr.length
    refine ⟨rfl, _, rfl, sz0, fun q hq => neE (s' _ _ eg) hq (b := !lv.isEmpty) rfl ⟨_, rfl, ?_⟩⟩
    have s2 := s'.trans (Rs.Same.new (o := .lst []) hq)
    have hd2 := un (u := .lst []) hd hq
    generalize upd H' q (.lst []) = H2 at s2 hd2 ⊢
    have eb : lv.isEmpty = r.isEmpty := by
      cases lv with
      | nil => cases r with
        | nil => rfl
        | cons => exact nomatch lr
      | cons => cases r with
        | nil => exact nomatch lr
        | cons => rfl
    rw [List.take_succ, hr, List.filter_append, eb]
    cases hb : r.isEmpty with
    | true =>
      refine ⟨ws, hd2, ?_, s2⟩
      have : (List.filter (fun r => !r.isEmpty) (some r).toList : List (List Pr)) = [] := by
        show List.filter _ [r] = []
        rw [List.filter_cons, hb]
        rfl
      rw [this, List.append_nil]
      exact pw
    | false =>
      have nD : D ≠ g := fun z => by
        rw [z] at hD
        rw [hD] at eg
        cases eg
      have s3 : Same H (upd H2 D (.lst (ws ++ [.ref g]))) := Rs.Same.mut s2 hD
      have t3 : TupLe H2 (upd H2 D (.lst (ws ++ [.ref g]))) := (TupLe.refl _).list hd2
      refine ⟨_, rfl, ws, hd2, szlt (by omega), _, upd_same, ?_, s3⟩
      have : (List.filter (fun r => !r.isEmpty) (some r).toList : List (List Pr)) = [r] := by
        show List.filter _ [r] = [r]
        rw [List.filter_cons, hb]
        rfl
      rw [this]
      exact P2.app pw (P2.one ⟨g, lv, rfl, ng, eg, pr⟩)
  · rintro H' ⟨ws, hd, pw, s'⟩
    rw [List.take_of_length_le (by omega)] at pw
    exact k D H' s' ⟨D, ws, rfl, zi.out hD, hd, P2.mono (fun _ _ z => LF.sst pair_sst _ _ _ _ s' z) pw⟩
theorem told_bad {K : PySem.W.Frag} {LS : List LamF} {l : List (Nat × (XK → TE))} {j : Nat} {t : XK → TE} {σ : L2.St} {f p u : Addr} {n : Int} {H : Hp} {Q : VK} (E : ErrIs K "BadRuns") (M : ErrMk K "BadRuns" "number") (hl : l.lookup j = some t)
    (ep : H p = some (.lst [.ref f])) (eu : H u = some (.tup [.str "BadRuns", .int n])) (hf : LamN LS j f H)
    (body : ∀ H' (Qn : VK), Same H H' → (∀ d H1, H1 d = none → Same H' H1 → rErr K (.ref (He.ga K "BadRuns")) (some d) (upd H1 d (.xd [(("number" : Str), .int n)])) Qn) → t (fun cls d H'' => rErr K cls d H'' Qn) σ H' Qn)
    (fin : ∀ H', Same H H' → Q (.bl true) H') : (t_law_all K LS (fun j E => lamT l j E σ)) { nx := fun _ H' => Q .non H', rt := Q } (start N_law_all [.ref p, .ref u]) H := by
  refine all_good (fs := [f]) (fun D j H' => H' D = some (.lst []) ∧ Same H H') (fun D hD => ⟨upd_same, Rs.Same.new hD⟩) (SqL.of ep) (fun D j H' h => SqL.of (h.2 _ _ ep)) (fun D H' h => h.1) ?_ (fun D e H' h he => fin _ (h.2.trans (Rs.Same.new he)))
  rintro D i g H' hi ⟨hd, s⟩
  have : g = f := by
    cases i with
    | zero => exact (Option.some.inj hi).symm
    | succ i => exact nomatch hi
  subst this
  refine ⟨j, hf.ext fun b φ e => s _ _ e, fun Qn hQ => ⟨t, hl, body H' Qn s fun d H1 hd1 s1 => ?_⟩⟩
  refine rErr_number E M upd_same fun u' H2 hu s2 e => ?_
  have s02 := s.trans (s1.trans ((Rs.Same.new hd1).trans s2))
  refine hQ _ _ (fun Q E q => ⟨.tuple [.str "BadRuns", .int n], ?_, .tup (SqT.of e) (.cons (.str _) (.cons (.int _) .nil)), .tup (SqT.of (s02 _ _ eu)) (.cons (.str _) (.cons (.int _) .nil)), q⟩) ⟨(s1.trans ((Rs.Same.new hd1).trans s2)) _ _ hd, s02⟩
  refine Rs.okA.to (n := 2) ⟨by show 2 ≤ 100000; decide, fun d hd => ?_⟩ (by decide)
  simp only [List.mem_cons, List.not_mem_nil, or_false] at hd
  rcases hd with rfl | rfl <;> exact trivial
theorem mX_bad {K : PySem.W.Frag} {ks : List Str} {o : Ord} {rs : List (List Pr)} {n : Nat} {kv : V} {lo lr : Addr} {Z : List Addr} {H : Hp} {Q : VK} {E : XK} (hk : KindsAt H kv ks) (gk : GoodKinds ks) (Lo : Lst TurnAt H lo o) (go : GoodOrd ks o) (L : LF Z (PrF Z) H (.ref lr) rs) (b : BadRun ks o rs n)
    (len : rs.length ≤ 1000) (sz : ∀ r ∈ rs, r.length ≤ 1000 ∧ ∀ p ∈ r, RowSz p.2) (fl : rs.flatten.length ≤ 1000) (bad : ∀ d H1, H1 d = none → Same H H1 → E (.ref (He.ga K "BadRuns")) (some d) (upd H1 d (.xd [(("number" : Str), .int (n : Int))]))) : sp_mergedX K [kv, .ref lo, .ref lr] H Q E := by
  refine ⟨ks, o, rs, lo, lr, hk, gk, rfl, Lo, go, by have := go.len gk.le; omega, rfl, L.lst, len, sz, fl, fun m d H1 h hd s => ?_, fun l g nd => (b.not l g nd).elim⟩
  rw [h.eq b]
  exact bad d H1 hd s
theorem one_bad {K : PySem.W.Frag} {T : List (Addr × Str)} {LS : List LamF} {l : List (Nat × (XK → TE))} {j : Nat} {t : XK → TE} {σ : L2.St} {ta : TA} {n : Int} {H : Hp} {Q : VK} (E : ErrIs K "BadRuns") (M : ErrMk K "BadRuns" "number") (TT : Tabs T H) (hl : l.lookup j = some t)
    (hta : ∀ (H1 : Hp) (R : List V → Hp → Prop), R [.int n] H1 → ta σ H1 R)
    (body : ∀ H' (Qn : VK), ExtN H H' → (∀ d H1, H1 d = none → Same H' H1 → rErr K (.ref (He.ga K "BadRuns")) (some d) (upd H1 d (.xd [(("number" : Str), .int n)])) Qn) → t (fun cls d H'' => rErr K cls d H'' Qn) σ H' Qn)
    (fin : ∀ H', ExtN H H' → Tabs T H' → Q (.bl true) H') :
    (tAllC LS l (t_law_all K) N_law_all (tCons (tLst (tCons (tLamM T LS j) tNil)) (tCons (tTup (tConsC (.str "BadRuns") ta)) tNil))) σ H Q := by
  refine ⟨TT, fun f H1 e1 T1 hf LN => ⟨szle (by show 1 ≤ 100000; decide), fun p hp => hta _ _ ?_⟩⟩
  refine ⟨szle (by show 2 ≤ 100000; decide), fun u hu => ⟨rfl, ?_⟩⟩
  have s1 : Same H1 (upd H1 p (.lst [.ref f])) := Rs.Same.new hp
  have ep : upd H1 p (.lst [.ref f]) p = some (.lst [.ref f]) := upd_same
  have LN1 := LN.ext fun b φ e => s1 b _ e
  generalize upd H1 p (.lst [.ref f]) = H2 at s1 ep LN1 hu ⊢
  have s2 : Same H2 (upd H2 u (.tup [.str "BadRuns", .int n])) := Rs.Same.new hu
  have eu : upd H2 u (.tup [.str "BadRuns", .int n]) u = some (.tup [.str "BadRuns", .int n]) := upd_same
  have LN2 := LN1.ext fun b φ e => s2 b _ e
  have ep2 := s2 _ _ ep
  generalize upd H2 u (.tup [.str "BadRuns", .int n]) = H3 at s2 eu LN2 ep2 ⊢
  have s13 := s1.trans s2
  exact told_bad E M hl ep2 eu LN2 (fun H' Qn s bad => body H' Qn ((e1.trans (extN_same s13)).trans (extN_same s)) bad) fun H' s => fin H' ((e1.trans (extN_same s13)).trans (extN_same s)) (tabs_same T1 (s13.trans s))
end Rs

namespace Rs
open PySem PySem.Spec PyProof.Rows L2
open LamX
def Lms_k05 : Lams := [(("law", none), (("law" ++ ".<locals>.") ++ "<lambda>" : Str))]
abbrev N_law : List Str := ["_law_script", "_law_box", "_law_turn", "_law_kinds_here", "_law_order_here", "_law_rows_here", "_law_runs", "_law_every", "_law_run", "_law_due", "_law_high", "_law_handed", "_law_again", "_law_found", "_law_looks", "_law_least", "_law_full", "_law_bad_here", "_law_number", "_law_twice", "_law_works", "_law_k"]
abbrev P_law : List Str := ["_law_script"]
def sp_law (K : PySem.W.Frag) : Sp := fun vs H Q E => match vs with
  | [s] => ∃ (p : Addr) (ns : List Int), s = .ref p ∧ SqL K H p (ns.map V.int) ∧ ns.length ≤ 63 ∧ Tabs (tabs Lms_k05 K) H ∧ ∀ H', Q (.bl true) H'
  | _ => False
def t_law (K : PySem.W.Frag) (LS : List LamF) (E : XK) : TS := (tSeq (tAsg (tCall (sp_law_begun K) [] E (tCons (tVar 0) tNil)) (gName 1))
  (tSeq (tFor (iRng1 (tConsC (.int 3) tNil)) (gName 2) 
     (tSeq (tAsg (tCall (sp_law_kinds K) [] E (tCons (tVar 1) tNil)) (gName 3))
     (tSeq (tAsg (tCall (sp_law_order K) [] E (tCons (tVar 1) (tCons (tVar 3) tNil))) (gName 4))
      (tSeq (tAsg (tCall (sp_law_rows K) [] E (tCons (tVar 1) (tCons (tVar 3) (tCons (tOp (rIxL K) (tLst (tConsC (.int 60) (tConsC (.int 60) (tConsC (.int 120) tNil)))) (tCall (sp_law_take K) [] E (tCons (tVar 1) (tConsC (.int 3) tNil)))) tNil)))) (gName 5))
       (tSeq (tAsg (tCall (sp_law_parts K) [] E (tCons (tVar 1) (tCons (tVar 4) (tCons (tVar 5) (tCons (tOp (rIxL K) (tLst (tConsC (.int 2) (tConsC (.int 8) (tConsC (.int 40) tNil)))) (tCall (sp_law_take K) [] E (tCons (tVar 1) (tConsC (.int 3) tNil)))) tNil))))) (gName 6))
        (tSeq (tAsg (tLst tNil) (gName 7))
         (tSeq (tFor (iList K (tVar 6)) (gName 8) (tDrop (tBM K "list" rExtend (tVar 7) (tCons (tVar 8) tNil))))
          (tSeq (tAsg (tCall (sp_law_sorted K) [] E (tCons (tVar 4) (tCons (tVar 7) tNil))) (gName 9))
           (tSeq (tAsg (tOpC (rIxL K) (tLc (iRng1 (tConsC (.int 8) tNil)) (gName 21) (tTest (tOp xGe (tOp (rIxL K) (tLst (tConsC (.int 1) (tConsC (.int 2) (tConsC (.int 4) (tConsC (.int 8) (tConsC (.int 16) (tConsC (.int 32) (tConsC (.int 64) (tConsC (.int 128) tNil))))))))) (tVar 21)) (tCB1 (xLen K) (tVar 6)))) (tVar 21) [21]) (.int 0)) (gName 10))
            (tSeq (tAsg (tLc (iList K (tVar 6)) (gName 8) tYes (tCB1 (xList K) (tVar 8)) [8]) (gName 11))
             (tSeq (tFor (iRng1 (tConsC (.int 2) tNil)) (gName 12) 
                (tSeq (tAsg (tCall (sp_mergedX K) [] E (tCons (tVar 3) (tCons (tVar 4) (tCons (tVar 11) tNil)))) (gTup K 2 (gCons (gName 13) (gCons (gName 14) gNil))))
                (tSeq (tIfS (tOr (tNot (tB (tCall (sp_law_alike K) [] E (tCons (tVar 13) (tCons (tVar 9) tNil))))) (tTest (tOp (rNeD K) (tVar 11) (tVar 6)))) (tRet (tC (.bl false))) tNext)
                 (tSeq (tAsg (tOpC xSub (tCB1 (xLen K) (tLc (iList K (tVar 6)) (gName 8) (tTest (tOp (xNeE K) (tVar 8) (tLst tNil))) (tVar 8) [8])) (.int 1)) (gName 15))
                  (tSeq (tIfS (tOr (tNot (tB (tCall (sp_law_alike K) [] E (tCons (tVar 14) (tCons (tCB1 xInt (tVar 14)) tNil))))) (tNot (tTest (tChain xLe xLe (tVar 15) (tVar 14) (tOp xAdd (tOpC xSub (tCB1 (xLen K) (tVar 6)) (.int 1)) (tOp xMul (tVar 10) (tCB1 (xLen K) (tVar 9)))))))) (tRet (tC (.bl false))) tNext)
                   (tDrop (tBM K "list" rAppend (tVar 13) (tCons (tTup tNil) tNil))))))))
              (tSeq (tAsg (tLc (iList K (tVar 6)) (gName 8) (tTest (tOp (xNeE K) (tVar 8) (tLst tNil))) (tVar 8) [8]) (gName 16))
               (tSeq (tIfS (tTest (tOp (xNeE K) (tVar 16) (tLst tNil))) 
                  (tSeq (tAsg (tCall (sp_law_bad K) [] E (tCons (tVar 1) (tCons (tVar 4) (tCons (tSl (rSlL K) (tVar 16) tNoPart (tPart (tC (.int 39)))) tNil)))) (gTup K 2 (gCons (gName 17) (gCons (gName 18) gNil))))
                  (tSeq (tIfS (tNot (tB (tAllC LS [ (0, fun E => (tCall (sp_mergedX K) [] E (tCons (tVar 3) (tCons (tVar 4) (tCons (tVar 17) tNil))))) ] (t_law_all K) N_law_all (tCons (tLst (tCons (tLamM (tabs Lms_k05 K) LS 0) tNil)) (tCons (tTup (tConsC (.str "BadRuns") (tCons (tVar 18) tNil))) tNil))))) (tRet (tC (.bl false))) tNext)
                   (tSeq (tAsg (tOp rCat (tVar 16) (tLst (tCons (tSl (rSlL K) (tOp (rIxL K) (tVar 16) (tCall (sp_law_take K) [] E (tCons (tVar 1) (tCons (tCB1 (xLen K) (tVar 16)) tNil)))) tNoPart (tPart (tC (.int 1)))) tNil))) (gName 19))
                    (tSeq (tAsg (tLst (tCons (tLamM (tabs Lms_k05 K) LS 1) tNil)) (gName 20))
                     (tIfS (tAnd (tTest (tOpC xLt (tCB1 (xLen K) (tVar 19)) (.int 41))) (tNot (tB (tAllC LS [ (1, fun E => (tCall (sp_mergedX K) [] E (tCons (tVar 3) (tCons (tVar 4) (tCons (tVar 19) tNil))))) ] (t_law_all K) N_law_all (tCons (tVar 20) (tCons (tTup (tConsC (.str "BadRuns") (tCons (tCB1 (xLen K) (tVar 16)) tNil))) tNil)))))) (tRet (tC (.bl false))) tNext))))) tNext)
                (tIfS (tNot (tB (tAllC LS [ (2, fun E => (tCall (sp_mergedX K) [] E (tCons (tVar 3) (tCons (tVar 4) (tCons (tOpC rRep (tLst (tCons (tLst tNil) tNil)) (.int 41)) tNil))))) ] (t_law_all K) N_law_all (tCons (tLst (tCons (tLamM (tabs Lms_k05 K) LS 2) tNil)) (tCons (tTup (tConsC (.str "BadRuns") (tConsC (.int 40) tNil))) tNil))))) (tRet (tC (.bl false))) tNext))))))))))))))
   (tRet (tOp (rEqD K) (tCall (sp_mergedX K) [] E (tCons (tTup (tConsC (.str "number") tNil)) (tCons (tLst (tCons (tTup (tConsC (.int 0) (tConsC (.str "up") tNil))) tNil)) (tCons (tLst tNil) tNil)))) (tTup (tCons (tLst tNil) (tConsC (.int 0) tNil)))))))
def Turn5 (K : PySem.W.Frag) (s a l : Addr) (σ : L2.St) (H' : Hp) : Prop := ∃ x2 x3 x4 x5 x6 x7 x8 x9 x10 x11 x12 x13 x14 x15 x16 x17 x18 x19 x20 x21, σ = [some (.ref s), some (.ref a), x2, x3, x4, x5, x6, x7, x8, x9, x10, x11, x12, x13, x14, x15, x16, x17, x18, x19, x20, x21] ∧ Box H' a l ∧ Tabs (tabs Lms_k05 K) H'
def tMany5 (K : PySem.W.Frag) (LS : List LamF) (E : XK) : TS := (tIfS (tNot (tB (tAllC LS [ (2, fun E => (tCall (sp_mergedX K) [] E (tCons (tVar 3) (tCons (tVar 4) (tCons (tOpC rRep (tLst (tCons (tLst tNil) tNil)) (.int 41)) tNil))))) ] (t_law_all K) N_law_all (tCons (tLst (tCons (tLamM (tabs Lms_k05 K) LS 2) tNil)) (tCons (tTup (tConsC (.str "BadRuns") (tConsC (.int 40) tNil))) tNil))))) (tRet (tC (.bl false))) tNext)
def tOne5 (K : PySem.W.Frag) (LS : List LamF) (E : XK) : TS := (tSeq (tAsg (tCall (sp_law_bad K) [] E (tCons (tVar 1) (tCons (tVar 4) (tCons (tSl (rSlL K) (tVar 16) tNoPart (tPart (tC (.int 39)))) tNil)))) (gTup K 2 (gCons (gName 17) (gCons (gName 18) gNil))))
                  (tSeq (tIfS (tNot (tB (tAllC LS [ (0, fun E => (tCall (sp_mergedX K) [] E (tCons (tVar 3) (tCons (tVar 4) (tCons (tVar 17) tNil))))) ] (t_law_all K) N_law_all (tCons (tLst (tCons (tLamM (tabs Lms_k05 K) LS 0) tNil)) (tCons (tTup (tConsC (.str "BadRuns") (tCons (tVar 18) tNil))) tNil))))) (tRet (tC (.bl false))) tNext)
                   (tSeq (tAsg (tOp rCat (tVar 16) (tLst (tCons (tSl (rSlL K) (tOp (rIxL K) (tVar 16) (tCall (sp_law_take K) [] E (tCons (tVar 1) (tCons (tCB1 (xLen K) (tVar 16)) tNil)))) tNoPart (tPart (tC (.int 1)))) tNil))) (gName 19))
                    (tSeq (tAsg (tLst (tCons (tLamM (tabs Lms_k05 K) LS 1) tNil)) (gName 20))
                     (tIfS (tAnd (tTest (tOpC xLt (tCB1 (xLen K) (tVar 19)) (.int 41))) (tNot (tB (tAllC LS [ (1, fun E => (tCall (sp_mergedX K) [] E (tCons (tVar 3) (tCons (tVar 4) (tCons (tVar 19) tNil))))) ] (t_law_all K) N_law_all (tCons (tVar 20) (tCons (tTup (tConsC (.str "BadRuns") (tCons (tCB1 (xLen K) (tVar 16)) tNil))) tNil)))))) (tRet (tC (.bl false))) tNext)))))
def tTail5 (K : PySem.W.Frag) (LS : List LamF) (E : XK) : TS := (tSeq (tAsg (tLc (iList K (tVar 6)) (gName 8) (tTest (tOp (xNeE K) (tVar 8) (tLst tNil))) (tVar 8) [8]) (gName 16))
               (tSeq (tIfS (tTest (tOp (xNeE K) (tVar 16) (tLst tNil))) 
                  (tOne5 K LS E) tNext)
                (tMany5 K LS E)))
theorem Lst.ext {α : Type} {R : Rel α} (st : Stable R) {H H' : Hp} {x : Addr} {xs : List α} (e : ExtN H H') (L : Lst R H x xs) : Lst R H' x xs := let ⟨vs, a, b⟩ := L; ⟨vs, e _ _ a fun _ z => (by cases z), Paired.tl st (extN_tup e) b⟩
theorem LF.ext {Z : List Addr} {H H' : Hp} {v : V} {rs : List (List Pr)} (x : ExtN H H') (L : LF Z (PrF Z) H v rs) : LF Z (PrF Z) H' v rs :=
  let ⟨g, vs, e, n, q, p⟩ := L
  ⟨g, vs, e, n, x _ _ q fun _ z => (by cases z), P2.mono (fun v y q => let ⟨g, ws, e, m, a, b⟩ := q; ⟨g, ws, e, m, x _ _ a fun _ z => (by cases z), Paired.tl PairAt.st (extN_tup x) b⟩) p⟩
theorem LF.stay {Z : List Addr} {H H' : Hp} {v : V} {rs : List (List Pr)} (t : TupLe H H') (k : But Z H H') (L : LF Z (PrF Z) H v rs) : LF Z (PrF Z) H' v rs :=
  L.but (fun v x q => q.but (fun v x q => PairAt.st _ _ _ _ t q) k) k
theorem Box.ext {H H' : Hp} {a l : Addr} (B : Box H a l) (e : ExtN H H') : Box H' a l := B.keepN (ButN.ext (F := []) e) fun _ _ z => nomatch z
theorem cut_to5 {xs : List V} {n : Nat} : cutV xs none (some (n : Int)) = xs.take n := by
  by_cases h : n ≤ xs.length
  · exact cut_to h
  · unfold cutV
    rw [HT.sIx_nat, HT.sIx_none, Nat.min_eq_right (by omega), List.drop_zero, List.take_of_length_le (by omega : xs.length ≤ n)]
    exact List.take_length
theorem many5 {K : PySem.W.Frag} (eB : ErrIs K "BadRuns") (mB : ErrMk K "BadRuns" "number") {LS : List LamF} {E : XK} {EN : Ends} {σ : L2.St} {H : Hp} {kv : V} {lo : Addr} {ks : List Str} {o : Ord} (h3 : σ[3]? = some (some kv)) (h4 : σ[4]? = some (some (.ref lo))) (TT : Tabs (tabs Lms_k05 K) H) (hk : KindsAt H kv ks) (gk : GoodKinds ks) (Lo : Lst TurnAt H lo o) (go : GoodOrd ks o)
    (k : ∀ H', ExtN H H' → Tabs (tabs Lms_k05 K) H' → EN.nx σ H') : tMany5 K LS E EN σ H := by
  unfold tMany5 tIfS tNot tB
  refine one_bad eB mB TT rfl (fun H1 R r => r) (fun H' Qn e1 bad => ?_) (fun H' e T => ⟨_, rfl, k H' e T⟩)
  refine ⟨_, h3, _, h4, sz0, fun e he => ⟨szle (by show 1 ≤ 100000; decide), fun q hq => ?_⟩⟩
  have s1 : Same H' (upd H' e (.lst [])) := Rs.Same.new he
  have ee : upd H' e (.lst []) e = some (.lst []) := upd_same
  generalize upd H' e (.lst []) = H1 at s1 ee hq ⊢
  have s2 : Same H1 (upd H1 q (.lst [.ref e])) := Rs.Same.new hq
  have eq : upd H1 q (.lst [.ref e]) q = some (.lst [.ref e]) := upd_same
  have ee2 := s2 _ _ ee
  generalize upd H1 q (.lst [.ref e]) = H2 at s2 eq ee2 ⊢
  refine ⟨_, _, _, rfl, rfl, eq, by decide, by decide, szle (by show 1 * 41 ≤ 100000; decide), fun p hp => ?_⟩
  have rep : ∀ m, Paired (PrF [] H2) (List.replicate m [V.ref e]).flatten (List.replicate m []) := fun m => by
    induction m with
    | zero => exact .nil
    | succ m ih =>
      rw [List.replicate_succ, List.flatten_cons, List.replicate_succ]
      exact .cons ⟨e, [], rfl, by simp, ee2, .nil⟩ ih
  have z0 : ZIn [] H2 := fun z h => nomatch h
  have lP : LF [] (PrF []) (upd H2 p (.lst (List.replicate ((41 : Int)).toNat [V.ref e]).flatten)) (.ref p) (List.replicate 41 []) := LF.new (LF.sst pair_sst) z0 hp (rep _)
  have s3 : Same H' (upd H2 p (.lst (List.replicate ((41 : Int)).toNat [V.ref e]).flatten)) := (s1.trans s2).trans (Rs.Same.new hp)
  have e3 := e1.trans (extN_same s3)
  refine mX_bad (K := K) (Q := Qn) (E := fun cls d H'' => rErr K cls d H'' Qn) (hk.mono (extN_tup e3)) gk (Lo.ext TurnAt.st e3) go lP bad_many (by rw [List.length_replicate]; decide) (fun r hr => ?_) (by rw [flat_rep]; decide) fun d H3 hd s => bad d H3 hd (s3.trans s)
  rw [List.eq_of_mem_replicate hr]
  exact ⟨by decide, fun p hp => nomatch hp⟩
structure Full5 (ks : List Str) (o : Ord) (fu : List (List Pr)) : Prop where
  ne : ∀ r ∈ fu, r ≠ []
  good : ∀ r ∈ fu, isRunB ks o r = true
  nd : (fu.flatten.map (·.1)).Nodup
  few : fu.length ≤ 40
  len : fu.flatten.length ≤ 120
theorem flat_take {α : Type} (fu : List (List α)) (n : Nat) : (fu.take n).flatten.Sublist fu.flatten := by
  have : fu.flatten = (fu.take n).flatten ++ (fu.drop n).flatten := by rw [← List.flatten_append, List.take_append_drop]
  rw [this]
  exact List.sublist_append_left ..
theorem Full5.take {ks : List Str} {o : Ord} {fu : List (List Pr)} (F : Full5 ks o fu) (n : Nat) : Full5 ks o (fu.take n) :=
  ⟨fun r h => F.ne r (List.mem_of_mem_take h), fun r h => F.good r (List.mem_of_mem_take h), F.nd.sublist (List.Sublist.map _ (flat_take fu n)), Nat.le_trans (List.length_take_le' ..) F.few, Nat.le_trans (flat_take fu n).length_le F.len⟩
theorem one5 {K : PySem.W.Frag} (eB : ErrIs K "BadRuns") (mB : ErrMk K "BadRuns" "number") {LS : List LamF} {E : XK} {EN : Ends} {H : Hp} {kv : V} {a l lo fp : Addr} {ks : List Str} {o : Ord} {fu : List (List Pr)} {x0 x2 x5 x6 x7 x8 x9 x10 x11 x12 x13 x14 x15 x17 x18 x19 x20 x21 : Option V}
    (B : Box H a l) (TT : Tabs (tabs Lms_k05 K) H) (hk : KindsAt H kv ks) (gk : GoodKinds ks) (Lo : Lst TurnAt H lo o) (flo : lo ∉ [a, l]) (go : GoodOrd ks o) (L : LF [a, l] (PrF [a, l]) H (.ref fp) fu) (F : Full5 ks o fu) (f1 : fu ≠ [])
    (k : ∀ H' y17 y18 y19 y20, Box H' a l → Tabs (tabs Lms_k05 K) H' → KindsAt H' kv ks → Lst TurnAt H' lo o → EN.nx [x0, some (.ref a), x2, some kv, some (.ref lo), x5, x6, x7, x8, x9, x10, x11, x12, x13, x14, x15, some (.ref fp), y17, y18, y19, y20, x21] H') :
    tOne5 K LS E EN [x0, some (.ref a), x2, some kv, some (.ref lo), x5, x6, x7, x8, x9, x10, x11, x12, x13, x14, x15, some (.ref fp), x17, x18, x19, x20, x21] H := by
  have sst : SSt (PrF [a, l]) := LF.sst pair_sst
  have sstL : SSt (LF [a, l] (PrF [a, l])) := LF.sst sst
  have fpos := List.length_pos_iff.mpr f1
  unfold tOne5
  refine ⟨_, rfl, _, rfl, _, rfl, ?_⟩
  unfold tNoPart
  dsimp only
  refine ⟨_, rfl, cut_F sst B.zin L (i := 0) (j := 39) (fun vs e => by rw [List.drop_zero]; exact cut_to5 (n := 39)) fun p1 H1 s1 l1 => ?_⟩
  have F39 : Full5 ks o ((fu.drop 0).take 39) := by rw [List.drop_zero]; exact F.take 39
  refine ⟨a, l, ks, o, _, rfl, l1, by rw [List.drop_zero, List.length_take]; omega, by rw [List.drop_zero, List.length_take]; omega, F39.ne, F39.good, F39.nd, F39.len, gk, go.col, B.same s1, fun t D rs' n H2 ht et L2 bad len sz fl B2 k2 => ?_⟩
  have k02 := (But.same (S := [a, l]) s1).trans k2
  have t02 := B.tup k02
  have T2 := tabs_but TT k02 B.free
  have hk2 := hk.mono t02
  have Lo2 := Lst.but TurnAt.st B k02 Lo flo
  have Lf2 := L.stay t02 k02
  refine ⟨t, _, rfl, SqT.of et, rfl, _, _, rfl, _, _, rfl, rfl, ?_⟩
  unfold tIfS tNot tB
  refine one_bad eB mB T2 rfl (fun H1 R r => ⟨_, rfl, r⟩) (fun H' Qn e bad' => ⟨_, rfl, _, rfl, _, rfl, by exact mX_bad (K := K) (Q := Qn) (E := fun cls d H'' => rErr K cls d H'' Qn) (hk2.mono (extN_tup e)) gk (Lo2.ext TurnAt.st e) go (L2.ext e) bad (by omega) sz fl bad'⟩) (fun H3 e3 T3 => ⟨_, rfl, ?_⟩)
  have B3 := B2.ext e3
  have Lf3 := Lf2.ext e3
  have hk3 := hk2.mono (extN_tup e3)
  have Lo3 := Lo2.ext TurnAt.st e3
  have few := F.few
  refine ⟨_, rfl, _, rfl, _, rfl, _, rfl, len_F Lf3 ⟨a, l, _, rfl, rfl, by omega, by omega, B3, fun r0 H4 r0' r1 B4 k4 => ?_⟩⟩
  have t4 := B3.tup k4
  have Lf4 := Lf3.stay t4 k4
  obtain ⟨r, rfl⟩ : ∃ n : Nat, r0 = (n : Int) := ⟨r0.toNat, by omega⟩
  have hr : r < fu.length := by omega
  refine at_F Lf4 hr rfl fun v hv => ?_
  refine ⟨_, rfl, cut_F pair_sst B4.zin hv (i := 0) (j := 1) (fun vs e => by rw [List.drop_zero]; exact cut_to5 (n := 1)) fun p5 H5 s5 l5 => ⟨szle (by show 1 ≤ 100000; decide), fun q hq => ?_⟩⟩
  have sq : Same H5 (upd H5 q (.lst [.ref p5])) := Rs.Same.new hq
  have z5 := B4.zin.same s5
  have lq : LF [a, l] (PrF [a, l]) (upd H5 q (.lst [.ref p5])) (.ref q) [((fu[r]).drop 0).take 1] := LF.new sst z5 hq (P2.one l5)
  generalize upd H5 q (.lst [.ref p5]) = H6 at sq lq ⊢
  have s46 := s5.trans sq
  refine cat_F sst (B4.zin.same s46) (sstL _ _ _ _ s46 Lf4) lq (by rw [List.length_singleton]; omega) fun p7 H7 s7 l7 => ?_
  have s47 := s46.trans s7
  have B7 := B4.same s47
  have k37 := k4.trans (But.same (S := [a, l]) s47)
  have T7 := tabs_but T3 k37 B3.free
  have hk7 := hk3.mono (B3.tup k37)
  have Lo7 := Lst.but TurnAt.st B3 k37 Lo3 flo
  have Lf7 := sstL _ _ _ _ s47 Lf4
  have b2 := bad_twice (ks := ks) (o := o) hr F.few F.ne F.good F.nd
  rw [List.drop_zero] at l7
  refine ⟨T7, fun g H8 e8 T8 hg LN => ⟨szle (by show 1 ≤ 100000; decide), fun w hw => ?_⟩⟩
  have s9 : Same H8 (upd H8 w (.lst [.ref g])) := Rs.Same.new hw
  have ew : upd H8 w (.lst [.ref g]) w = some (.lst [.ref g]) := upd_same
  have LN9 := LN.ext fun b φ e => s9 b _ e
  generalize upd H8 w (.lst [.ref g]) = H9 at s9 ew LN9 ⊢
  have e79 := e8.trans (extN_same s9)
  have l9 := l7.ext e79
  have Lf9 := Lf7.ext e79
  have B9 := B7.ext e79
  have T9 := tabs_same T8 s9
  have hk9 := hk7.mono (extN_tup e79)
  have Lo9 := Lo7.ext TurnAt.st e79
  refine ⟨_, rfl, len_F l9 ⟨_, _, rfl, rfl, _, rfl, ?_⟩⟩
  dsimp only
  cases hc : decide (((fu ++ [(fu[r]).take 1]).length : Int) < 41) with
  | false => exact k H9 _ _ _ _ B9 T9 hk9 Lo9
  | true =>
    refine ⟨_, rfl, _, rfl, len_F Lf9 ⟨szle (by show 2 ≤ 100000; decide), fun u hu => ⟨rfl, ?_⟩⟩⟩
    have s10 : Same H9 (upd H9 u (.tup [.str "BadRuns", .int (fu.length : Int)])) := Rs.Same.new hu
    have eu : upd H9 u (.tup [.str "BadRuns", .int (fu.length : Int)]) u = some (.tup [.str "BadRuns", .int (fu.length : Int)]) := upd_same
    have LN10 := LN9.ext fun b φ e => s10 b _ e
    have ew10 := s10 _ _ ew
    refine told_bad eB mB rfl ew10 eu LN10 (fun H' Qn s11 bad => ?_) fun H' s11 => ⟨_, rfl, ?_⟩
    · have s911 := s10.trans s11
      have sub : ((fu ++ [(fu[r]).take 1]).flatten).length ≤ 121 := by
        rw [List.flatten_append, List.length_append]
        have := F.len
        have : ((fu[r]).take 1).length ≤ 1 := by rw [List.length_take]; omega
        simp only [List.flatten_cons, List.flatten_nil, List.append_nil]
        omega
      refine ⟨_, rfl, _, rfl, _, rfl, ?_⟩
      refine (show sp_mergedX K [kv, .ref lo, .ref p7] H' Qn (fun cls d H'' => rErr K cls d H'' Qn) from mX_bad (hk9.mono (TupLe.same s911)) gk (Lo9.same TurnAt.st s911) go (sstL _ _ _ _ s911 l9) b2 (by rw [List.length_append, List.length_singleton]; omega) (fun x hx => ?_) (by omega) bad)
      have hx2 : ∃ y ∈ fu, x.Sublist y := by
        rcases List.mem_append.mp hx with h | h
        · exact ⟨x, h, List.Sublist.refl _⟩
        · rw [List.mem_singleton.mp h]
          exact ⟨_, List.getElem_mem hr, List.take_sublist _ _⟩
      obtain ⟨y, hy, sb⟩ := hx2
      refine ⟨?_, fun p hp => RowSz.of (isRunB_row (F.good y hy) p (sb.subset hp)) gk.le⟩
      have := (List.sublist_flatten_of_mem hy).length_le
      have := sb.length_le
      have := F.len
      omega
    · have s911 := s10.trans s11
      exact k H' _ _ _ _ (B9.same s911) (tabs_same T9 s911) (hk9.mono (TupLe.same s911)) (Lo9.same TurnAt.st s911)
theorem tail5 {K : PySem.W.Frag} (eB : ErrIs K "BadRuns") (mB : ErrMk K "BadRuns" "number") {LS : List LamF} {E : XK} {EN : Ends} {H : Hp} {kv : V} {s a l lo lp : Addr} {ks : List Str} {o : Ord} {rs : List (List Pr)} {x2 x5 x7 x8 x9 x10 x11 x12 x13 x14 x15 x16 x17 x18 x19 x20 x21 : Option V}
    (B : Box H a l) (TT : Tabs (tabs Lms_k05 K) H) (hk : KindsAt H kv ks) (gk : GoodKinds ks) (Lo : Lst TurnAt H lo o) (flo : lo ∉ [a, l]) (go : GoodOrd ks o) (L : LF [a, l] (PrF [a, l]) H (.ref lp) rs) (l40 : rs.length ≤ 40) (fl : rs.flatten.length ≤ 120) (good : ∀ r ∈ rs, isRunB ks o r = true) (nd : (rs.flatten.map (·.1)).Nodup)
    (k : ∀ σ' H', Turn5 K s a l σ' H' → EN.nx σ' H') : tTail5 K LS E EN [some (.ref s), some (.ref a), x2, some kv, some (.ref lo), x5, some (.ref lp), x7, x8, x9, x10, x11, x12, x13, x14, x15, x16, x17, x18, x19, x20, x21] H := by
  have ffl : (rs.filter fun r => !r.isEmpty).flatten = rs.flatten := by
    clear L l40 fl good nd k
    induction rs with
    | nil => rfl
    | cons r rs ih =>
      rw [List.filter_cons]
      cases r with
      | nil => simpa using ih
      | cons p r => simpa using ih
  have F : Full5 ks o (rs.filter fun r => !r.isEmpty) := ⟨fun r h => (by
    have := (List.mem_filter.mp h).2
    intro z
    rw [z] at this
    exact nomatch this), fun r h => good r (List.mem_filter.mp h).1, by rw [ffl]; exact nd, Nat.le_trans (List.length_filter_le _ _) l40, by rw [ffl]; exact fl⟩
  unfold tTail5 tSeq tAsg
  dsimp only
  refine fullL B.zin L (by omega) fun p H1 s1 L1 => ?_
  generalize (rs.filter fun r => !r.isEmpty) = fu at F L1
  have B1 := B.same s1
  have T1 := tabs_same TT s1
  have hk1 := hk.mono (TupLe.same s1)
  have Lo1 := Lo.same TurnAt.st s1
  have last : ∀ H' y17 y18 y19 y20, Box H' a l → Tabs (tabs Lms_k05 K) H' → KindsAt H' kv ks → Lst TurnAt H' lo o → tMany5 K LS E EN [some (.ref s), some (.ref a), x2, some kv, some (.ref lo), x5, some (.ref lp), x7, x8, x9, x10, x11, x12, x13, x14, x15, some (.ref p), y17, y18, y19, y20, x21] H' := fun H' y17 y18 y19 y20 B' T' hk' Lo' =>
    many5 eB mB rfl rfl T' hk' gk Lo' go fun H2 e T2 => k _ _ ⟨_, _, _, _, _, _, _, _, _, _, _, _, _, _, _, _, _, _, _, _, rfl, B'.ext e, T2⟩
  obtain ⟨_, vs, q, nz, el, pl⟩ := id L1
  cases q
  have lpl := pl.length
  refine ⟨_, rfl, sz0, fun z hz => neE el hz (b := !vs.isEmpty) rfl ⟨_, rfl, ?_⟩⟩
  have s2 : Same H1 (upd H1 z (.lst [])) := Rs.Same.new hz
  generalize upd H1 z (.lst []) = H2 at s2 ⊢
  have B2 := B1.same s2
  have T2 := tabs_same T1 s2
  have hk2 := hk1.mono (TupLe.same s2)
  have Lo2 := Lo1.same TurnAt.st s2
  have L2' := (LF.sst (LF.sst pair_sst)) _ _ _ _ s2 L1
  cases vs with
  | nil => exact last H2 _ _ _ _ B2 T2 hk2 Lo2
  | cons v vs =>
    refine one5 eB mB B2 T2 hk2 gk Lo2 flo go L2' F (fun z => by rw [z] at lpl; exact nomatch lpl) fun H' y17 y18 y19 y20 B' T' hk' Lo' => last H' _ _ _ _ B' T' hk' Lo'
theorem pure_law {K : PySem.W.Frag} (eBadRuns : ErrIs K "BadRuns") (mBadRuns : ErrMk K "BadRuns" "number") : ∀ LS vs H Q E, sp_law K vs H Q E → t_law K LS E { nx := fun _ H' => Q .non H', rt := Q } (start N_law vs) H := by
  intro LS vs H Q E h
  match vs, h with
  | [sv], h =>
    obtain ⟨s, ns, rfl, hs, hn, TT, k⟩ := h
    refine ⟨_, rfl, s, ns, rfl, hs, hn, fun a l H1 ha hl B1 s1 => ?_⟩
    refine ⟨_, rfl, by decide, by decide, ?_⟩
    refine for_range (lo := 0) (n := (3 : Int).toNat) (fun i σ H' => Turn5 K s a l σ H') ⟨_, _, _, _, _, _, _, _, _, _, _, _, _, _, _, _, _, _, _, _, rfl, B1, tabs_same TT s1⟩ ?_ ?_
    · rintro i σ H' hi ⟨x2, x3, x4, x5, x6, x7, x8, x9, x10, x11, x12, x13, x14, x15, x16, x17, x18, x19, x20, x21, rfl, B, T⟩
      refine ⟨_, rfl, a, l, rfl, B, fun kv ks H3 hk gk B3 k3 => ?_⟩
      refine ⟨_, rfl, _, rfl, a, l, ks, rfl, B3, hk, gk, fun lo o H4 nlo Lo go B4 k4 => ?_⟩
      have flo := B3.fresh nlo
      have hk4 := KindsAt.st _ _ _ _ (B3.tup k4) hk
      have T4 := tabs_but T (k3.trans k4) B.free
      refine ⟨_, rfl, _, rfl, szle (by show 3 ≤ 100000; decide), fun q hq => ?_⟩
      have fq := B4.fresh hq
      generalize gX : upd _ q _ = H5
      have s5 := newS hq gX
      have e5 := newE gX
      clear gX
      have B5 := B4.same s5
      have k34 := k3.trans (k4.trans (But.same s5))
      refine ⟨_, rfl, a, l, _, rfl, rfl, by decide, by decide, B5, fun r6 H6 c0 c1 B6 k6 => ?_⟩
      obtain ⟨m, hm, m0, m120⟩ : ∃ m : Int, ([V.int 60, V.int 60, V.int 120] : List V)[r6.toNat]? = some (.int m) ∧ 0 ≤ m ∧ m ≤ 120 := by
        have : r6 = 0 ∨ r6 = 1 ∨ r6 = 2 := by omega
        rcases this with rfl | rfl | rfl
        · exact ⟨60, rfl, by decide, by decide⟩
        · exact ⟨60, rfl, by decide, by decide⟩
        · exact ⟨120, rfl, by decide, by decide⟩
      have hk6 := (hk4.mono (TupLe.same s5)).mono (B5.tup k6)
      refine ixL (k6 _ _ e5 fq) (show r6 = ((r6.toNat : Nat) : Int) by omega) hm ⟨a, l, ks, m, rfl, rfl, m0, by omega, B6, hk6, gk, fun lr rows H7 nlr Lr good hlen B7 k7 => ?_⟩
      have flr := B6.fresh nlr
      have Lo7 := Lst.but TurnAt.st B6 k7 (Lst.but TurnAt.st B5 k6 (Lo.same TurnAt.st s5) flo) flo
      have hk7 := hk6.mono (B6.tup k7)
      have k37 := k34.trans (k6.trans k7)
      have T7 := tabs_but T k37 B.free
      -- parts
      refine ⟨_, rfl, _, rfl, _, rfl, szle (by show 3 ≤ 100000; decide), fun q2 hq2 => ?_⟩
      have fq2 := B7.fresh hq2
      generalize gX : upd _ q2 _ = H8
      have s8 := newS hq2 gX
      have e8 := newE gX
      clear gX
      have B8 := B7.same s8
      refine ⟨_, rfl, a, l, _, rfl, rfl, by decide, by decide, B8, fun r9 H9 d0 d1 B9 k9 => ?_⟩
      obtain ⟨m2, hm2, m21, m240⟩ : ∃ m : Int, ([V.int 2, V.int 8, V.int 40] : List V)[r9.toNat]? = some (.int m) ∧ 1 ≤ m ∧ m ≤ 40 := by
        have : r9 = 0 ∨ r9 = 1 ∨ r9 = 2 := by omega
        rcases this with rfl | rfl | rfl
        · exact ⟨2, rfl, by decide, by decide⟩
        · exact ⟨8, rfl, by decide, by decide⟩
        · exact ⟨40, rfl, by decide, by decide⟩
      have Lo9 := Lst.but TurnAt.st B8 k9 (Lo7.same TurnAt.st s8) flo
      have Lr9 := Lst.but RowAt.st B8 k9 (Lr.same RowAt.st s8) flr
      have hk9 := (hk7.mono (TupLe.same s8)).mono (B8.tup k9)
      have fne : ∀ {x : Addr}, x ∉ [a, l] → x ≠ a ∧ x ≠ l := fun h => ⟨fun z => h (by rw [z]; simp), fun z => h (by rw [z]; simp)⟩
      refine ixL (k9 _ _ e8 fq2) (show r9 = ((r9.toNat : Nat) : Int) by omega) hm2 ⟨a, l, ks, o, rows, lo, lr, m2, rfl, rfl, rfl, rfl, m21, m240, B9, Lo9, go.col, Lr9, good, by omega, (fne flo).1, (fne flo).2, (fne flr).1, (fne flr).2, fun lp rs H10 nlp LP po rs1 rsm B10 k10 => ?_⟩
      have k310 := k37.trans (((But.same s8).trans k9).trans k10)
      have T10 := tabs_but T k310 B.free
      -- every
      refine ⟨sz0, fun ev hev => ?_⟩
      have fev := B10.fresh hev
      obtain ⟨pv, ep, pp⟩ := id LP.lst
      have lpp := pp.length
      have flt := po.len
      have rle : rows.length ≤ 120 := by omega
      have s11 : Same H10 (upd H10 ev (.lst [])) := Rs.Same.new hev
      refine ⟨_, rfl, lp, rfl, ⟨_, SqL.of (s11 _ _ ep)⟩, ?_⟩
      refine for_list (K := K) (a := lp) (xs := pv) (fun j σ H' => ∃ y8, σ = [some (.ref s), some (.ref a), some (.int (0 + (i : Int))), some kv, some (.ref lo), some (.ref lr), some (.ref lp), some (.ref ev), y8, x9, x10, x11, x12, x13, x14, x15, x16, x17, x18, x19, x20, x21] ∧ Same H10 H' ∧ Lst PairAt H' ev ((rs.take j).flatten)) ⟨x8, rfl, s11, [], upd_same, .nil⟩ ?_ ?_ ?_
      · rintro j σ H' _ ⟨_, _, s', _⟩
        exact SqL.of (s' _ _ ep)
      · rintro j v σ H' hj ⟨y8, rfl, s', ⟨lv, el, pl⟩⟩
        obtain ⟨r, hjr, g, rfl, rv, er, pr⟩ := P2.get pp hj
        have tk := take_flat hjr
        have tot := flat_len (rs := rs) (j + 1)
        rw [tk, List.length_append] at tot
        have l1 := pl.length
        have l2 := pr.length
        have er' := s' _ _ er
        have nge : g ≠ ev := ne_of_none er hev
        refine ⟨_, rfl, .inl ⟨rfl, _, SqL.of el⟩, _, rfl, ev, g, lv, rv, rfl, rfl, el, er', szle (by omega), ?_⟩
        have t1 : TupLe H' (upd H' ev (.lst (lv ++ rv))) := (TupLe.refl H').list el
        refine ⟨_, rfl, Rs.Same.mut s' hev, ?_⟩
        rw [tk]
        exact ⟨_, upd_same, P2.app (Paired.tl PairAt.st t1 pl) (Paired.tl PairAt.st ((TupLe.same s').trans t1) pr)⟩
      rintro σ H11 ⟨y8, rfl, s011, Lev⟩
      rw [List.take_of_length_le (by omega)] at Lev
      have Lo11 := (Lst.but TurnAt.st B9 k10 Lo9 flo).same TurnAt.st s011
      have hk11 := (hk9.mono (B9.tup k10)).mono (TupLe.same s011)
      have fine : Fine ks rs.flatten := ⟨fun p hp => (po.row p hp).1, po.nd⟩
      refine ⟨_, rfl, _, rfl, ks, o, rs.flatten, ⟨lo, rfl, Lo11⟩, ⟨ev, rfl, Lev⟩, go.col, fine, by omega, fun dv ys H12 ndv Ldv pmy upy s12 => ?_⟩
      have s1012 := s011.trans s12
      have fdv : dv ∉ [a, l] := (B10.same s011).fresh ndv
      have B12 := B10.same s1012
      have T12 := tabs_same T10 s1012
      have LP12 := LP.but (TupLe.same s1012) (But.same s1012)
      have Lo12 := Lo11.same TurnAt.st s12
      have hk12 := hk11.mono (TupLe.same s12)
      clear Lo Lo7 Lo9 Lo11 hk hk4 hk6 hk7 hk9 hk11 Lr Lr9 B1 B3 B4 B5 B6 B7 B8 B9 e5 e8 T4 T7 T10
      -- high
      have ep12 := s1012 _ _ ep
      refine ⟨_, rfl, by decide, by decide, fun hh hhh => ?_⟩
      refine lc_range (lo := 0) (n := (8 : Int).toNat) (fun j H' => H' hh = some (.lst (((List.range j).filter fun k => decide (rs.length ≤ 2 ^ k)).map fun (k : Nat) => V.int (k : Int))) ∧ Same H12 H') ⟨upd_same, Rs.Same.new hhh⟩ ?_ ?_
      · rintro j H' hj ⟨hd, s'⟩
        have hj8 : j < 8 := hj
        refine ⟨rfl, szle (by show 8 ≤ 100000; decide), fun q hq => ?_⟩
        have s'' : Same H' (upd H' q (.lst [.int 1, .int 2, .int 4, .int 8, .int 16, .int 32, .int 64, .int 128])) := Rs.Same.new hq
        have eq8 : upd H' q (.lst [.int 1, .int 2, .int 4, .int 8, .int 16, .int 32, .int 64, .int 128]) q = some _ := upd_same
        have gt : ([V.int 1, V.int 2, V.int 4, V.int 8, V.int 16, V.int 32, V.int 64, V.int 128] : List V)[j]? = some (.int ((2 ^ j : Nat) : Int)) := by
          have : j = 0 ∨ j = 1 ∨ j = 2 ∨ j = 3 ∨ j = 4 ∨ j = 5 ∨ j = 6 ∨ j = 7 := by omega
          rcases this with rfl | rfl | rfl | rfl | rfl | rfl | rfl | rfl <;> rfl
        have hd'' := s'' _ _ hd
        generalize upd H' q (.lst [.int 1, .int 2, .int 4, .int 8, .int 16, .int 32, .int 64, .int 128]) = H'' at s'' eq8 hd'' ⊢
        refine ⟨_, rfl, ixL eq8 (show (0 + (j : Int)) = (j : Int) by omega) gt ⟨_, rfl, lenL ((s'.trans s'') _ _ ep12) rfl ⟨_, _, rfl, rfl, _, rfl, ?_⟩⟩⟩
        have ed : decide ((((2 ^ j : Nat) : Int)) ≥ (pv.length : Int)) = decide (rs.length ≤ 2 ^ j) := by
          rw [decide_eq_decide, ← lpp]
          omega
        rw [ed, List.range_succ, List.filter_append]
        cases hb : decide (rs.length ≤ 2 ^ j) with
        | false =>
          refine ⟨?_, s'.trans s''⟩
          rw [List.filter_cons, hb]
          simpa using hd''
        | true =>
          refine ⟨_, rfl, _, hd'', szlt (by
            rw [List.length_map]
            have := (List.filter_sublist (l := List.range j) (p := fun k => decide (rs.length ≤ 2 ^ k))).length_le
            rw [List.length_range] at this
            omega), ?_, Rs.Same.mut (s'.trans s'') hhh⟩
          rw [upd_same, List.filter_cons, hb, List.map_append]
          simp
      rintro H13 ⟨hd13, s1213⟩
      have rs40 : rs.length ≤ 40 := by omega
      obtain ⟨high, rest, eh, hle⟩ : ∃ h r, (List.range (8 : Int).toNat).filter (fun k => decide (rs.length ≤ 2 ^ k)) = h :: r ∧ rs.length ≤ 2 ^ h := by
        have m6 : 6 ∈ (List.range (8 : Int).toNat).filter (fun k => decide (rs.length ≤ 2 ^ k)) := List.mem_filter.mpr ⟨List.mem_range.mpr (by decide), decide_eq_true (by show rs.length ≤ 64; omega)⟩
        cases q : (List.range (8 : Int).toNat).filter (fun k => decide (rs.length ≤ 2 ^ k)) with
        | nil =>
          rw [q] at m6
          exact nomatch m6
        | cons h r => exact ⟨h, r, rfl, of_decide_eq_true (List.mem_filter.mp (show h ∈ (List.range (8 : Int).toNat).filter (fun k => decide (rs.length ≤ 2 ^ k)) by rw [q]; exact List.mem_cons_self)).2⟩
      rw [eh] at hd13
      refine ixL hd13 (j := 0) rfl rfl ?_
      have s1013 := s1012.trans s1213
      have B13 := B12.same s1213
      have T13 := tabs_same T12 s1213
      have LP13 := LP12.but (TupLe.same s1213) (But.same s1213)
      have Lo13 := Lo12.same TurnAt.st s1213
      have hk13 := hk12.mono (TupLe.same s1213)
      have Ldv13 := Ldv.same PairAt.st s1213
      have ep13 := s1213 _ _ ep12
      clear LP12 Lo12 hk12 Ldv B12 T12
      -- handed
      refine ⟨_, rfl, lp, rfl, ⟨_, SqL.of ep13⟩, fun dh hdh => ?_⟩
      have fdh := B13.fresh hdh
      have pp13 : Paired (RunV H13) pv rs := P2.mono (fun _ _ q => q.same PairAt.st s1013) pp
      refine lc_list (K := K) (a := lp) (xs := pv) (fun j H' => ∃ vs, H' dh = some (.lst vs) ∧ Paired (RunT (fun g => H13 g = none) dh H') vs (rs.take j) ∧ Same H13 H') ⟨[], upd_same, .nil, Rs.Same.new hdh⟩ ?_ ?_ ?_
      · rintro j H' _ ⟨_, _, _, s'⟩
        exact SqL.of (s' _ _ ep13)
      · rintro j v H' hj ⟨vs, hd', pv', s'⟩
        obtain ⟨r, hjr, g, rfl, rv, er, pr⟩ := P2.get pp13 hj
        have lv := pv'.length
        rw [List.length_take] at lv
        refine ⟨rfl, lc_yes ⟨_, rfl, g, _, rfl, .inl (SqL.of (s' _ _ er)), fun f hf => ⟨vs, un hd' hf, szlt (by omega), _, upd_same, ?_, Rs.Same.mut (s'.trans (Rs.Same.new hf)) hdh⟩⟩⟩
        have nf : f ≠ dh := (ne_of_none hd' hf).symm
        have t1 : TupLe H' (upd (upd H' f (.lst rv)) dh (.lst (vs ++ [.ref f]))) := (TupLe.new hf).list (un hd' hf)
        rw [List.take_succ, hjr]
        refine P2.app (P2.mono (fun v y q => ?_) pv') (P2.one ⟨f, rfl, nf, s'.free hf, rv, up upd_same nf, Paired.tl PairAt.st ((TupLe.same s').trans t1) pr⟩)
        obtain ⟨g, rfl, ng, g0, L⟩ := q
        exact ⟨g, rfl, ng, g0, L.keep PairAt.st t1 fun u q => up (un q hf) ng⟩
      rintro H14 ⟨hv, hd14, pv14, s1314⟩
      rw [List.take_of_length_le (by omega)] at pv14
      have runOk : ∀ r ∈ rs, isRunB ks o r = true := fun r hr => up_isRun (po.up r hr) fun p hp => ⟨(po.row p (List.mem_flatten.mpr ⟨r, hr, hp⟩)).1, (po.row p (List.mem_flatten.mpr ⟨r, hr, hp⟩)).2.1⟩
      refine ⟨_, rfl, by decide, by decide, ?_⟩
      refine for_range (lo := 0) (n := (2 : Int).toNat) (fun j σ H' => ∃ y12 y13 y14 y15, σ = [some (.ref s), some (.ref a), some (.int (0 + (i : Int))), some kv, some (.ref lo), some (.ref lr), some (.ref lp), some (.ref ev), y8, some (.ref dv), some (.int (high : Int)), some (.ref dh), y12, y13, y14, y15, x16, x17, x18, x19, x20, x21] ∧ Same H14 H') ⟨_, _, _, _, rfl, Same.refl _⟩ ?_ ?_
      · rintro j σ H' hj ⟨y12, y13, y14, y15, rfl, s'⟩
        have hk' := hk13.mono (TupLe.same (s1314.trans s'))
        have Lo' := Lo13.same TurnAt.st (s1314.trans s')
        have Lh' : Lst RunV H' dh rs := ⟨hv, s' _ _ hd14, P2.mono (fun v y q => let ⟨g, e, _, _, L⟩ := q; ⟨g, e, L.same PairAt.st s'⟩) pv14⟩
        have lenR : ∀ r ∈ rs, r.length ≤ 1000 ∧ ∀ p ∈ r, RowSz p.2 := fun r hr => ⟨by
          have := (List.sublist_flatten_of_mem hr).length_le
          omega, fun p hp => RowSz.of (isRunB_row (runOk r hr) p hp) gk.le⟩
        refine ⟨_, rfl, _, rfl, _, rfl, ks, o, rs, lo, dh, hk', gk, rfl, Lo', go, by have := go.len gk.le; omega, rfl, Lh', by omega, lenR, by omega, (fun n d H1 b _ _ => (b.not rs40 runOk po.nd).elim), fun _ _ _ t f H15 e looks zs ht hf et Lf up pm g0 g1 g2 g3 g4 s15 => ?_⟩
        refine ⟨t, _, rfl, SqT.of et, rfl, _, _, rfl, _, _, rfl, rfl, ?_⟩
        have ezs : zs = ys := up_unique go.col (fine.perm pm) (pm.trans pmy.symm) up upy
        subst ezs
        have s0 := s1314.trans (s'.trans s15)
        obtain ⟨fv, ef, pf⟩ := id Lf
        have lfv := pf.length
        have s145 := s'.trans s15
        have okZ : okD 4 (runD zs) := list_ok (n := 3) (by have := pm.length_eq; omega) fun q hq => pair_ok (fine.row q (pm.mem_iff.mp hq)) (by have := gk.le; omega) 0
        have okR : okD 5 (runsD rs) := list_ok (n := 4) (by omega) fun r hr => list_ok (n := 3) (by have := (lenR r hr).1; omega) fun q hq => pair_ok (po.row q (List.mem_flatten.mpr ⟨r, hr, hq⟩)).1 (by have := gk.le; omega) 0
        have Ldv15 := Ldv13.same PairAt.st s0
        have LP15 := LP13.but (TupLe.same s0) (But.same s0)
        have Lh15 : Lst RunV H15 dh rs := ⟨hv, s145 _ _ hd14, P2.mono (fun v y q => let ⟨g, e, _, _, L⟩ := q; ⟨g, e, L.same PairAt.st s145⟩) pv14⟩
        have dpr : ∀ x, Lst RunV H15 x rs → Dp K H15 (.ref x) (runsD rs) := fun x h => lst_dp (fun v x q => run_dp (N := fun _ => True) (let ⟨g, e, L⟩ := q; ⟨g, e, trivial, L⟩)) h
        refine ⟨_, rfl, _, rfl, runD zs, okZ.a.to (by decide), lst_dp (fun v x h => pair_dp h) Lf, lst_dp (fun v x h => pair_dp h) Ldv15, _, rfl, ?_⟩
        refine ⟨_, rfl, _, rfl, _, _, dpr _ Lh15, dpr _ LP15.lst, okR.shaped (by decide), okR.shaped (by decide), ?_⟩
        rw [okR.eqv]
        refine ⟨_, rfl, ?_⟩
        rw [Bool.not_true]
        dsimp only
        rw [if_neg Bool.false_ne_true]
        unfold tNext tSeq tAsg tOpC tCB1
        dsimp only
        refine fullL (B13.same s0).zin LP15.lf (by omega) fun p16 H16 s16 L16 => len_F L16 ⟨_, _, rfl, rfl, ?_⟩
        have es : (([some (V.ref s), some (V.ref a), some (V.int (0 + ↑i)), some kv, some (V.ref lo), some (V.ref lr), some (V.ref lp), some (V.ref ev), y8, some (V.ref dv), some (V.int ↑high), some (V.ref dh), y12, y13, y14, y15, x16, x17, x18, x19, x20, x21].set 12 (some (V.int (0 + ↑j)))).set 13 (some (V.ref f))).set 14 (some (V.int looks)) = [some (V.ref s), some (V.ref a), some (V.int (0 + ↑i)), some kv, some (V.ref lo), some (V.ref lr), some (V.ref lp), some (V.ref ev), y8, some (V.ref dv), some (V.int ↑high), some (V.ref dh), some (V.int (0 + ↑j)), some (V.ref f), some (V.int looks), y15, x16, x17, x18, x19, x20, x21] := rfl
        rw [es]
        refine ⟨_, rfl, _, rfl, .inl ⟨_, rfl, .int looks, trivial, .int _, .int _, _, rfl, ?_⟩⟩
        have e6 : H16 lp = some (.lst pv) := s16 _ _ (s0 _ _ ep13)
        obtain ⟨vv, evv, pvv⟩ := Ldv15.same PairAt.st s16
        have lvv := pvv.length
        have lpm := pm.length_eq
        refine ⟨_, rfl, _, rfl, _, _, rfl, rfl, _, rfl, ?_⟩
        have c1 : ((rs.filter fun r => !r.isEmpty).length : Int) - 1 ≤ looks := g2
        dsimp only
        rw [decide_eq_true c1, if_pos rfl]
        refine ⟨_, rfl, lenL e6 rfl ⟨_, _, rfl, rfl, ?_⟩⟩
        have l120 : vv.length ≤ 120 := by omega
        refine ⟨_, rfl, _, rfl, lenL evv rfl ⟨_, _, rfl, rfl, .inr ⟨by omega, by omega⟩, _, _, rfl, rfl, _, _, rfl, rfl, ?_⟩⟩
        have c2 : looks ≤ (pv.length : Int) - 1 + (high : Int) * (vv.length : Int) := by
          have le := e_le g4 hle
          have m1 : (e : Int) * (rs.flatten.length : Int) ≤ (high : Int) * (rs.flatten.length : Int) := Int.mul_le_mul_of_nonneg_right (by omega) (by omega)
          have e1 : (vv.length : Int) = (rs.flatten.length : Int) := by rw [lvv, lpm]
          rw [e1]
          omega
        refine ⟨decide (looks ≤ (pv.length : Int) - 1 + (high : Int) * (vv.length : Int)), rfl, ?_⟩
        rw [decide_eq_true c2]
        refine ⟨_, rfl, .inl ⟨rfl, _, SqL.of (s16 _ _ ef)⟩, sz0, fun tn htn => ⟨_, _, _, rfl, rfl, un (s16 _ _ ef) htn, szlt (by omega), ?_⟩⟩
        exact ⟨_, _, _, _, rfl, Rs.Same.mut (s145.trans (s16.trans (Rs.Same.new htn))) (s'.free hf)⟩
      rintro σ H15 ⟨y12, y13, y14, y15, rfl, s1415⟩
      have s0 := s1314.trans s1415
      have B15 := B13.same s0
      have T15 := tabs_same T13 s0
      have LP15 := (LP13.but (TupLe.same s0) (But.same s0)).lf
      have Lo15 := Lo13.same TurnAt.st s0
      have hk15 := hk13.mono (TupLe.same s0)
      clear LP13 Lo13 hk13 Ldv13 B13 T13 pv14 hd14 hd13 s1314 s1415 s0 ep13 ep12 pp13 pp ep
      dsimp only
      exact tail5 eBadRuns mBadRuns B15 T15 hk15 gk Lo15 flo go LP15 rs40 (by omega) runOk po.nd fun _ _ h => h
    · rintro σ H' ⟨x2, x3, x4, x5, x6, x7, x8, x9, x10, x11, x12, x13, x14, x15, x16, x17, x18, x19, x20, x21, rfl, B, T⟩
      clear B
      refine ⟨szle (by show 1 ≤ 100000; decide), fun t1 ht1 => ⟨szle (by show 2 ≤ 100000; decide), fun t2 ht2 => ⟨szle (by show 1 ≤ 100000; decide), fun l1 hl1 => ⟨sz0, fun l2 hl2 => ?_⟩⟩⟩⟩
      generalize gX : upd _ t1 _ = H1 at ht2 hl1 hl2 ⊢
      have s1 := newS ht1 gX
      have e1 := newE gX
      clear gX
      generalize gX : upd _ t2 _ = H2 at hl1 hl2 ⊢
      have s2 := newS ht2 gX
      have e2 := newE gX
      clear gX
      generalize gX : upd _ l1 _ = H3 at hl2 ⊢
      have s3 := newS hl1 gX
      have e3 := newE gX
      clear gX
      generalize gX : upd _ l2 _ = H4
      have s4 := newS hl2 gX
      have e4 := newE gX
      clear gX
      dsimp only [tNil, List.append_nil]
      refine ⟨["number"], [(0, true)], [], l1, l2, ⟨t1, rfl, (s4 _ _ (s3 _ _ (s2 _ _ e1)))⟩, ⟨by decide, by decide, fun k hk => .inl (List.mem_singleton.mp hk)⟩, rfl, ⟨_, s4 _ _ e3, P2.one ⟨t2, rfl, s4 _ _ (s3 _ _ e2)⟩⟩, ?_, by decide, rfl, ⟨_, e4, .nil⟩, by decide, (fun r hr => nomatch hr), by decide, (fun n d H1 b _ _ => absurd b.1 (Nat.not_lt_zero _)), fun _ _ _ t f H5 e looks ys ht hf et Lf up pm g0 g1 g2 g3 g4 s5 => ?_⟩
      · exact ⟨by decide, fun t ht => by rw [List.mem_singleton.mp ht]; decide, by simp⟩
      · have ey : ys = [] := List.Perm.eq_nil pm
        subst ey
        have e0 : looks = 0 := by
          have : looks ≤ 0 := by simpa using g1
          omega
        subst e0
        obtain ⟨fv, ef, pf⟩ := Lf
        cases pf
        refine ⟨sz0, fun l6 hl6 => ⟨szle (by show 2 ≤ 100000; decide), fun t6 ht6 => ?_⟩⟩
        have et6 := un (u := .lst []) et hl6
        have ef6 := un (u := .lst []) ef hl6
        generalize gX : upd _ l6 _ = H6 at ht6 et6 ef6 ⊢
        have s6 := newS hl6 gX
        have e6 := newE gX
        clear gX
        have et7 := un (u := .tup [.ref l6, .int 0]) et6 ht6
        have ef7 := un (u := .tup [.ref l6, .int 0]) ef6 ht6
        generalize gX : upd _ t6 _ = H7 at et7 ef7 ⊢
        have s7 := newS ht6 gX
        have e7 := newE gX
        clear gX
        have ok : okD 5 (.tuple [.list [], .int 0]) := ⟨by show 2 ≤ 100000; decide, fun d hd => by
          simp only [List.mem_cons, List.not_mem_nil, or_false] at hd
          rcases hd with rfl | rfl
          · exact ⟨by show 0 ≤ 100000; decide, fun d hd => nomatch hd⟩
          · exact trivial⟩
        refine ⟨_, _, .tup (SqT.of et7) (.cons (.lst (SqL.of ef7) .nil) (.cons (.int 0) .nil)), .tup (SqT.of e7) (.cons (.lst (SqL.of (s7 _ _ e6)) .nil) (.cons (.int 0) .nil)), okD.shaped ok (by decide), okD.shaped ok (by decide), ?_⟩
        rw [okD.eqv ok]
        exact k _
end Rs


namespace Lw
open PySem PySem.Spec PyProof.Rows L2 Rs LamX
structure Wd (K : PySem.W.Frag) (mg : Str → Option Value) (base : Heap) : Prop where
  c : Hx.SaysM fs fn K
  X : ∃ h : Heap, K.In h ∧ h.Ns mainGlobals mg
  tab : TabF K mg base Lms_k05
section
variable {K : PySem.W.Frag} {mg : Str → Option Value} {base : Heap}
theorem nodup_tabs (c : Hx.SaysM fs fn K) : ((tabs Lms_k05 K).map (·.1)).Nodup := of_decide_eq_true (c.fact 0 (f := fun K => decide ((tf.map fun p => (He.cT K p).2).Nodup)) rfl)
theorem Wd.err (W : Wd K mg base) (i : Nat) {x : Str} (h : fe[i]? = some x) : ErrIs K x := errB_ok (W.c.fact (i + 1) (f := fun K => Rs.errB x K) (by
  show (fe.map (fun x K => Rs.errB x K) ++ fr)[i]? = _
  rw [List.getElem?_append_left (by rw [List.length_map]; exact (List.getElem?_eq_some_iff.mp h).1), List.getElem?_map, h]; rfl))
theorem Wd.em (W : Wd K mg base) (i : Nat) {x f : Str} (h : fm[i]? = some (x, f)) : ErrMk K x f := emB_ok (W.c.fact (fe.length + i + 1) (f := fun K => Rs.emB x f K) (by
  show (fe.map (fun x K => Rs.errB x K) ++ fr)[fe.length + i]? = _
  rw [List.getElem?_append_right (by rw [List.length_map]; omega), List.length_map, Nat.add_sub_cancel_left]
  unfold fr
  rw [List.getElem?_append_left (by rw [List.length_map]; exact (List.getElem?_eq_some_iff.mp h).1), List.getElem?_map, h]; rfl))
theorem says_fact (c : Hx.SaysM fs fn K) (i : Nat) {f : He.Fa} (h : fa[i]? = some f) : f.ok K = true := c.fact (fe.length + (fm.length + i) + 1) (f := fun K => f.ok K) (by
  show (fe.map (fun x K => Rs.errB x K) ++ fr)[fe.length + (fm.length + i)]? = _
  rw [List.getElem?_append_right (by rw [List.length_map]; omega), List.length_map, Nat.add_sub_cancel_left]
  unfold fr
  rw [List.getElem?_append_right (by rw [List.length_map]; omega), List.length_map, Nat.add_sub_cancel_left, List.getElem?_map, h]; rfl)
theorem Wd.fact (W : Wd K mg base) (i : Nat) {f : He.Fa} (h : fa[i]? = some f) : f.ok K = true := says_fact W.c i h
theorem lms_tf (p : He.Defn × Str) (h : p ∈ Lms_k05) : p.1 ∈ tf := by
  have e : Lms_k05.map (·.1) = tf := rfl
  rw [← e]
  exact List.mem_map.mpr ⟨p, h, rfl⟩
theorem tabs_start (H : Hp) (h : ∀ p ∈ tf, H (He.cT K p).2 = some (.tbl #[])) : Tabs (tabs Lms_k05 K) H := fun q hq => by
  obtain ⟨p, hp, rfl⟩ := List.mem_map.mp hq
  exact TabS.nil (h _ (lms_tf p hp))
theorem Wd.glo (W : Wd K mg base) (i : Nat) {x : Str} (h : fa[i]? = some (.glo x)) : mg x = some (.ref (He.ga K x)) := let ⟨_, a, b⟩ := W.X; He.glo_ok a b (W.fact i h)
theorem Wd.free (W : Wd K mg base) (i : Nat) {x : Str} (h : fa[i]? = some (.free x)) : mg x = none := let ⟨_, a, b⟩ := W.X; He.free_ok a b (W.fact i h)
theorem Wd.int (W : Wd K mg base) (i : Nat) {x : Str} {z : Int} (h : fa[i]? = some (.int x z)) : ∃ t, mg x = some (.int z t) := let ⟨_, a, b⟩ := W.X; He.int_ok a b (W.fact i h)
theorem Wd.str (W : Wd K mg base) (i : Nat) {x z : Str} (h : fa[i]? = some (.str x z)) : ∃ t, mg x = some (.str z t) := let ⟨_, a, b⟩ := W.X; He.str_ok a b (W.fact i h)
theorem Wd.cls (W : Wd K mg base) (i : Nat) {x : Str} (h : fa[i]? = some (.cls x)) : Cls K (He.ga K x) := He.cls_ok (W.fact i h)
theorem Wd.noat (W : Wd K mg base) (i : Nat) {x f : Str} (h : fa[i]? = some (.noat x f)) : NoAttr K (He.ga K x) f := He.noat_ok (W.fact i h)
theorem Wd.meth (W : Wd K mg base) (i : Nat) {x m : Str} (h : fa[i]? = some (.meth x m)) : Meth K (He.ga K x) m (He.ma K (He.ga K x) m) := He.meth_ok (W.fact i h)
theorem Wd.exc (W : Wd K mg base) (i : Nat) {x : Str} (h : fa[i]? = some (.exc x)) : PySem.W.excIn K (He.ga K x) He.veBase "ValueError.__new__" = true ∧ PySem.W.keepIn K (.ref (He.ga K x)) = true ∧ PySem.W.subIn K (.ref (He.ga K x)) (.type "BaseException") = some true ∧ PySem.W.typeIn K (.ref (He.ga K x)) = some (.type "type") := He.exc_ok (W.fact i h)
theorem Wd.exm (W : Wd K mg base) (i : Nat) {x y : Str} {b : Bool} (h : fa[i]? = some (.exm x y b)) : PySem.W.exmOne K (.ref (He.ga K x)) (.ref (He.ga K y)) = some b := He.exm_ok (W.fact i h)
theorem Wd.mkr (W : Wd K mg base) (i : Nat) {x : Str} (h : fa[i]? = some (.mkr x)) : Mk K (He.ga K x) (He.ma K (He.ga K x) "__init__") := He.mkr_ok (W.fact i h)
theorem Wd.txt_Tree (W : Wd K mg base) : TxtTree K := ⟨W.cls 20 rfl, W.noat 68 rfl, W.noat 69 rfl, W.noat 70 rfl, W.noat 71 rfl, W.noat 72 rfl⟩
end
/-! ### each def keeps its promise -/
section
variable {P : Program} {w : World} {K : PySem.W.Frag} {mg : Str → Option Value} {base : Heap}
theorem sc_law_begun : FnScope N_law_begun P_law_begun (defScope s_law_begun) := ⟨rfl, rfl, rfl, by decide +kernel, rfl, by decide +kernel, by decide +kernel⟩
theorem ok_law_begun (W : Wd K mg base) : Can P w K mg base 1 ("_law_begun", none) P_law_begun (sp_law_begun K) := by
  obtain ⟨fd, F⟩ := W.c.def_ 0 (d := d_law_begun) rfl
  refine can_of F (F.bindsN fun _ _ _ _ _ _ us hl => match us, hl with | [_], _ => rfl) sc_law_begun (fun vs H Q E h => by unfold sp_law_begun at h; match vs, h with | [_], _ => rfl) (t_law_begun K) (fun cdv A outer s H E hr => ?_) (pure_law_begun)
  have nd := sc_law_begun.nd
  exact (pss_cons (ps_set (i := 1) nd rfl (Or.inl rfl) pe_int)
    (pss_cons (ps_for (passes_of rfl) rfl (pi_list (pv 0)) (pg_name (i := 2) nd rfl (Or.inl rfl)) (pss_one (ps_set (i := 1) nd rfl (Or.inl rfl) (pe_opC op_mod (pe_opC op_add (pe_op op_add (pe_opC op_mul (pv 1) pe_int) (pe_opC op_mul (pv 2) pe_int)) pe_int) pe_int))))
    (pss_one (ps_ret (pe_lst (pa_cons (pe_callTy1 call_list_of (by rfl) (W.free 0 rfl) (by decide +kernel) (pv 0)) (pa_cons (pe_op op_mul (pv 1) (pe_callTy1 call_int1 (by rfl) (W.free 2 rfl) (by decide +kernel) (pe_cmpRC op_gt (pe_callB1 call_len_seq (by rfl) (W.free 1 rfl) (by decide +kernel) (pv 0)) pe_int (nomark _)))) pa_nil)))))))
theorem sc_law_take : FnScope N_law_take P_law_take (defScope s_law_take) := ⟨rfl, rfl, rfl, by decide +kernel, rfl, by decide +kernel, by decide +kernel⟩
theorem ok_law_take (W : Wd K mg base) : Can P w K mg base 1 ("_law_take", none) P_law_take (sp_law_take K) := by
  obtain ⟨fd, F⟩ := W.c.def_ 1 (d := d_law_take) rfl
  refine can_of F (F.bindsN fun _ _ _ _ _ _ us hl => match us, hl with | [_, _], _ => rfl) sc_law_take (fun vs H Q E h => by unfold sp_law_take at h; match vs, h with | [_, _], _ => rfl) (t_law_take K) (fun cdv A outer s H E hr => ?_) (pure_law_take)
  have nd := sc_law_take.nd
  exact (pss_cons (ps_if (pt_cmpR (opx_eqE (hu_of hr)) (pe_ixC ix_list (pv 0) pe_int (fun _ _ => rfl)) (pe_lst pa_nil) (nomark _)) (pss_cons (ps_asg (pe_opC op_mod (pe_opC op_mul (pe_ixC ix_list (pv 0) pe_int (fun _ _ => rfl)) pe_int) pe_int) (pg_subC (pv 0) pe_int set_list))
    (pss_one (ps_ret (pe_op op_mod (pe_opC op_fdivW (pe_ixC ix_list (pv 0) pe_int (fun _ _ => rfl)) pe_int) (pv 1))))) pss_nil)
    (pss_cons (ps_set (i := 2) nd rfl (Or.inl rfl) (pe_ixC ix_list (pe_ixC ix_list (pv 0) pe_int (fun _ _ => rfl)) pe_int (fun _ _ => rfl)))
    (pss_cons (ps_asg (pe_op op_fdivW (pv 2) (pv 1)) (pg_subC (pe_ixC ix_list (pv 0) pe_int (fun _ _ => rfl)) pe_int set_list))
    (pss_cons (ps_if (PW.pt (pw_or (pt_cmpRC op_eq (pe_ixC ix_list (pe_ixC ix_list (pv 0) pe_int (fun _ _ => rfl)) pe_int (fun _ _ => rfl)) pe_int (nomark _)) (pw_or1 (pt_cmpRC op_eq (pe_ixC ix_list (pe_ixC ix_list (pv 0) pe_int (fun _ _ => rfl)) pe_int (fun _ _ => rfl)) (pe_unN pe_int) (nomark _))))) (pss_one (ps_expr (pe_bm PySem.F.plainAttrs_list PySem.F.slot_list_pop PySem.F.type_list_pop mt_popAt (pe_ixC ix_list (pv 0) pe_int (fun _ _ => rfl)) (pa_consC pe_int pa_nil)))) pss_nil)
    (pss_one (ps_ret (pe_op op_mod (pv 2) (pv 1))))))))
theorem sc_law_kinds : FnScope N_law_kinds P_law_kinds (defScope s_law_kinds) := ⟨rfl, rfl, rfl, by decide +kernel, rfl, by decide +kernel, by decide +kernel⟩
theorem ok_law_kinds (W : Wd K mg base) : Can P w K mg base 2 ("_law_kinds", none) P_law_kinds (sp_law_kinds K) := by
  obtain ⟨fd, F⟩ := W.c.def_ 2 (d := d_law_kinds) rfl
  refine can_of F (F.bindsN fun _ _ _ _ _ _ us hl => match us, hl with | [_], _ => rfl) sc_law_kinds (fun vs H Q E h => by unfold sp_law_kinds at h; match vs, h with | [_], _ => rfl) (t_law_kinds K) (fun cdv A outer s H E hr => ?_) (pure_law_kinds)
  have nd := sc_law_kinds.nd
  exact (pss_one (ps_ret (pe_callTy1 call_tuple_of (by rfl) (W.free 5 rfl) (by decide +kernel) (pe_lc (own := [("_law_k", 1)]) rfl nd (pi_range1 (by rfl) (W.free 4 rfl) (pa_cons (pe_opD op_add pe_int (pe_callC (ok_law_take W) (hr.mono (by decide)) rfl (W.glo 3 rfl) (passes_call (takes_of rfl rfl rfl rfl) (fun _ _ _ _ h => h)) (pa_cons (pv 0) (pa_consC pe_int pa_nil)))) pa_nil)) (blkOk_by (own := [("_law_k", 1)]) (N := N_law_kinds) (sc := defScope s_law_kinds) (by decide +kernel)) (fun _ _ _ _ _ => (pg_name (i := 1) nd rfl (Or.inl rfl))) (fun _ _ _ _ _ => pts_nil) (fun _ _ _ _ _ => (pe_ix ix_list (pe_lst (pa_consC pe_str (pa_consC pe_str pa_nil))) (pe_callC (ok_law_take W) (hr.mono (by decide)) rfl (W.glo 3 rfl) passL (pa_cons (pv 0) (pa_consC pe_int pa_nil))) (fun _ _ => rfl)))))))
theorem sc_law_order : FnScope N_law_order P_law_order (defScope s_law_order) := ⟨rfl, rfl, rfl, by decide +kernel, rfl, by decide +kernel, by decide +kernel⟩
theorem ok_law_order (W : Wd K mg base) : Can P w K mg base 2 ("_law_order", none) P_law_order (sp_law_order K) := by
  obtain ⟨fd, F⟩ := W.c.def_ 3 (d := d_law_order) rfl
  refine can_of F (F.bindsN fun _ _ _ _ _ _ us hl => match us, hl with | [_, _], _ => rfl) sc_law_order (fun vs H Q E h => by unfold sp_law_order at h; match vs, h with | [_, _], _ => rfl) (t_law_order K) (fun cdv A outer s H E hr => ?_) (pure_law_order)
  have nd := sc_law_order.nd
  exact (pss_cons (ps_set (i := 2) nd rfl (Or.inl rfl) (pe_listRg rfl rfl (W.free 0 rfl) (prg_1 rfl (W.free 4 rfl) (pe_callB1 call_len_seq (by rfl) (W.free 1 rfl) (by decide +kernel) (pv 1)))))
    (pss_cons (ps_set (i := 3) nd rfl (Or.inl rfl) (pe_lst pa_nil))
    (pss_cons (ps_for (passes_of rfl) rfl (pi_range1 (by rfl) (W.free 4 rfl) (pa_cons (pe_opD op_add pe_int (pe_callC (ok_law_take W) (hr.mono (by decide)) rfl (W.glo 3 rfl) (passes_call (takes_of rfl rfl rfl rfl) (fun _ _ _ _ h => h)) (pa_cons (pv 0) (pa_cons (pe_callB1 call_len_seq (by rfl) (W.free 1 rfl) (by decide +kernel) (pv 1)) pa_nil)))) pa_nil)) (pg_name (i := 4) nd rfl (Or.inl rfl)) (pss_one (ps_expr (pe_bm PySem.F.plainAttrs_list PySem.F.slot_list_append PySem.F.type_list_append mt_append (pv 3) (pa_cons (pe_tup (pa_cons (pe_bm PySem.F.plainAttrs_list PySem.F.slot_list_pop PySem.F.type_list_pop mt_popAt (pv 2) (pa_cons (pe_callC (ok_law_take W) (hr.mono (by decide)) rfl (W.glo 3 rfl) (passes_call (takes_of rfl rfl rfl rfl) (fun _ _ _ _ h => h)) (pa_cons (pv 0) (pa_cons (pe_callB1 call_len_seq (by rfl) (W.free 1 rfl) (by decide +kernel) (pv 2)) pa_nil))) pa_nil)) (pa_cons (pe_ix ix_list (pe_lst (pa_consC pe_str (pa_consC pe_str pa_nil))) (pe_callC (ok_law_take W) (hr.mono (by decide)) rfl (W.glo 3 rfl) (passes_call (takes_of rfl rfl rfl rfl) (fun _ _ _ _ h => h)) (pa_cons (pv 0) (pa_consC pe_int pa_nil))) (fun _ _ => rfl)) pa_nil))) pa_nil)))))
    (pss_one (ps_ret (pv 3))))))
theorem sc_law_value : FnScope N_law_value P_law_value (defScope s_law_value) := ⟨rfl, rfl, rfl, by decide +kernel, rfl, by decide +kernel, by decide +kernel⟩
theorem ok_law_value (W : Wd K mg base) : Can P w K mg base 2 ("_law_value", none) P_law_value (sp_law_value K) := by
  obtain ⟨fd, F⟩ := W.c.def_ 4 (d := d_law_value) rfl
  refine can_of F (F.bindsN fun _ _ _ _ _ _ us hl => match us, hl with | [_, _], _ => rfl) sc_law_value (fun vs H Q E h => by unfold sp_law_value at h; match vs, h with | [_, _], _ => rfl) (t_law_value K) (fun cdv A outer s H E hr => ?_) (pure_law_value)
  have nd := sc_law_value.nd
  exact (pss_cons (ps_if (pt_cmpRC op_eq (pv 1) pe_str (nomark _)) (pss_one (ps_ret (pe_ix ix_list (pe_lst (pa_cons (pe_callC (ok_law_take W) (hr.mono (by decide)) rfl (W.glo 3 rfl) (passes_call (takes_of rfl rfl rfl rfl) (fun _ _ _ _ h => h)) (pa_cons (pv 0) (pa_consC pe_int pa_nil))) (pa_cons (pe_opC op_sub (pe_callC (ok_law_take W) (hr.mono (by decide)) rfl (W.glo 3 rfl) (passes_call (takes_of rfl rfl rfl rfl) (fun _ _ _ _ h => h)) (pa_cons (pv 0) (pa_consC pe_int pa_nil))) pe_int) (pa_cons (pe_ix ix_list (pe_lst (pa_consC (pe_unN pe_int) (pa_consC pe_int (pa_consC pe_int pa_nil)))) (pe_callC (ok_law_take W) (hr.mono (by decide)) rfl (W.glo 3 rfl) (passes_call (takes_of rfl rfl rfl rfl) (fun _ _ _ _ h => h)) (pa_cons (pv 0) (pa_consC pe_int pa_nil))) (fun _ _ => rfl)) pa_nil)))) (pe_callC (ok_law_take W) (hr.mono (by decide)) rfl (W.glo 3 rfl) (passes_call (takes_of rfl rfl rfl rfl) (fun _ _ _ _ h => h)) (pa_cons (pv 0) (pa_consC pe_int pa_nil))) (fun _ _ => rfl)))) pss_nil)
    (pss_cons (ps_set (i := 2) nd rfl (Or.inl rfl) (pe_callC (ok_law_take W) (hr.mono (by decide)) rfl (W.glo 3 rfl) (passes_call (takes_of rfl rfl rfl rfl) (fun _ _ _ _ h => h)) (pa_cons (pv 0) (pa_cons (pe_ix ix_list (pe_lst (pa_consC pe_int (pa_consC pe_int pa_nil))) (pe_callC (ok_law_take W) (hr.mono (by decide)) rfl (W.glo 3 rfl) (passes_call (takes_of rfl rfl rfl rfl) (fun _ _ _ _ h => h)) (pa_cons (pv 0) (pa_consC pe_int pa_nil))) (fun _ _ => rfl)) pa_nil))))
    (pss_cons (ps_set (i := 3) nd rfl (Or.inr rfl) (pe_ix ix_list (pe_lst (pa_consC pe_str (pa_consC pe_str pa_nil))) (pe_callC (ok_law_take W) (hr.mono (by decide)) rfl (W.glo 3 rfl) (passes_call (takes_of rfl rfl rfl rfl) (fun _ _ _ _ h => h)) (pa_cons (pv 0) (pa_consC pe_int pa_nil))) (fun _ _ => rfl)))
    (pss_one (ps_ret (pe_join pe_str (pe_lc (own := [("_law_k", 4)]) rfl nd (pi_range1 (by rfl) (W.free 4 rfl) (pa_cons (pv 2) pa_nil)) (blkOk_by (own := [("_law_k", 4)]) (N := N_law_value) (sc := defScope s_law_value) (by decide +kernel)) (fun _ _ _ _ _ => (pg_name (i := 4) nd rfl (Or.inl rfl))) (fun _ _ _ _ _ => pts_nil) (fun _ _ _ _ _ => (pe_ix ix_str (pv 3) (pe_callC (ok_law_take W) (hr.mono (by decide)) rfl (W.glo 3 rfl) passL (pa_cons (pv 0) (pa_cons (pe_callB1 call_len_str (by rfl) (W.free 1 rfl) (by decide +kernel) (pv 3)) pa_nil))) (fun _ _ => rfl))))))))))
theorem sc_law_rows : FnScope N_law_rows P_law_rows (defScope s_law_rows) := ⟨rfl, rfl, rfl, by decide +kernel, rfl, by decide +kernel, by decide +kernel⟩
theorem ok_law_rows (W : Wd K mg base) : Can P w K mg base 3 ("_law_rows", none) P_law_rows (sp_law_rows K) := by
  obtain ⟨fd, F⟩ := W.c.def_ 5 (d := d_law_rows) rfl
  refine can_of F (F.bindsN fun _ _ _ _ _ _ us hl => match us, hl with | [_, _, _], _ => rfl) sc_law_rows (fun vs H Q E h => by unfold sp_law_rows at h; match vs, h with | [_, _, _], _ => rfl) (t_law_rows K) (fun cdv A outer s H E hr => ?_) (pure_law_rows)
  have nd := sc_law_rows.nd
  exact (pss_cons (ps_set (i := 3) nd rfl (Or.inl rfl) (pe_lst pa_nil))
    (pss_cons (ps_set (i := 4) nd rfl (Or.inl rfl) (pe_callC (ok_law_take W) (hr.mono (by decide)) rfl (W.glo 3 rfl) (passes_call (takes_of rfl rfl rfl rfl) (fun _ _ _ _ h => h)) (pa_cons (pv 0) (pa_consC pe_int pa_nil))))
    (pss_cons (ps_for (passes_of rfl) rfl (pi_range1 (by rfl) (W.free 4 rfl) (pa_cons (pe_callC (ok_law_take W) (hr.mono (by decide)) rfl (W.glo 3 rfl) (passes_call (takes_of rfl rfl rfl rfl) (fun _ _ _ _ h => h)) (pa_cons (pv 0) (pa_cons (pe_opC op_add (pv 2) pe_int) pa_nil))) pa_nil)) (pg_name (i := 5) nd rfl (Or.inl rfl)) (pss_cons (ps_setLc (i := 6) (own := [("_law_kind", 7)]) rfl nd rfl rfl (sw_true rfl rfl rfl (by decide +kernel)) (pi_tup (pv 1)) (blkOk_by (own := [("_law_kind", 7)]) (N := N_law_rows) (sc := defScope s_law_rows) (by decide +kernel)) (fun _ _ _ _ _ => (pg_name (i := 7) nd rfl (Or.inl rfl))) (fun _ _ _ _ _ => pts_nil) (fun _ _ _ _ _ => (pe_callC (ok_law_value W) (hr.mono (by decide)) rfl (W.glo 6 rfl) passL (pa_cons (pv 0) (pa_cons (pv 7) pa_nil)))))
    (pss_cons (ps_if (PW.pt (pw_and (pt_cmpR (opx_neE (hu_of hr)) (pv 3) (pe_lst pa_nil) (nomark _)) (pw_and1 (pt_cmpRC op_eq (pe_callC (ok_law_take W) (hr.mono (by decide)) rfl (W.glo 3 rfl) (passes_call (takes_of rfl rfl rfl rfl) (fun _ _ _ _ h => h)) (pa_cons (pv 0) (pa_consC pe_int pa_nil))) pe_int (nomark _))))) (pss_one (ps_set (i := 6) nd rfl (Or.inl rfl) (pe_callTy1 call_list_of (by rfl) (W.free 0 rfl) (by decide +kernel) (pe_ix ix_list (pv 3) (pe_callC (ok_law_take W) (hr.mono (by decide)) rfl (W.glo 3 rfl) (passes_call (takes_of rfl rfl rfl rfl) (fun _ _ _ _ h => h)) (pa_cons (pv 0) (pa_cons (pe_callB1 call_len_seq (by rfl) (W.free 1 rfl) (by decide +kernel) (pv 3)) pa_nil))) (fun _ _ => rfl))))) pss_nil)
    (pss_cons (ps_if (PW.pt (pw_and (pt_cmpR (opx_neE (hu_of hr)) (pv 3) (pe_lst pa_nil) (nomark _)) (pw_and (pt_cmpRC op_lt (pv 4) pe_int (nomark _)) (pw_and1 (pt_cmpRC op_eq (pe_ixC ix_tup (pv 1) pe_int (fun _ _ => rfl)) pe_str (nomark _)))))) (pss_one (ps_asg (pe_callB (call_max2 rfl) (by rfl) (W.free 8 rfl) (by decide +kernel) (pa_consC (pe_unN pe_int) (pa_cons (pe_callB (call_min2 rfl) (by rfl) (W.free 7 rfl) (by decide +kernel) (pa_consC pe_int (pa_cons (pe_op op_add (pe_ixC ix_tup (pe_ixC ix_list (pv 3) (pe_unN pe_int) (fun _ _ => rfl)) pe_int (fun _ _ => rfl)) (pe_op op_mul (pe_ix ix_list (pe_lst (pa_consC pe_int (pa_consC (pe_unN pe_int) pa_nil))) (pv 4) (fun _ _ => rfl)) (pe_callC (ok_law_take W) (hr.mono (by decide)) rfl (W.glo 3 rfl) (passes_call (takes_of rfl rfl rfl rfl) (fun _ _ _ _ h => h)) (pa_cons (pv 0) (pa_consC pe_int pa_nil))))) pa_nil))) pa_nil))) (pg_subC (pv 6) pe_int set_list))) pss_nil)
    (pss_one (ps_expr (pe_bm PySem.F.plainAttrs_list PySem.F.slot_list_append PySem.F.type_list_append mt_append (pv 3) (pa_cons (pe_callTy1 call_tuple_of (by rfl) (W.free 5 rfl) (by decide +kernel) (pv 6)) pa_nil))))))))
    (pss_one (ps_ret (pv 3))))))
theorem sc_law_ahead : FnScope N_law_ahead P_law_ahead (defScope s_law_ahead) := ⟨rfl, rfl, rfl, by decide +kernel, rfl, by decide +kernel, by decide +kernel⟩
theorem ok_law_ahead (W : Wd K mg base) : Can P w K mg base 1 ("_law_ahead", none) P_law_ahead (sp_law_ahead K) := by
  obtain ⟨fd, F⟩ := W.c.def_ 6 (d := d_law_ahead) rfl
  refine can_of F (F.bindsN fun _ _ _ _ _ _ us hl => match us, hl with | [_, _, _], _ => rfl) sc_law_ahead (fun vs H Q E h => by unfold sp_law_ahead at h; match vs, h with | [_, _, _], _ => rfl) (t_law_ahead K) (fun cdv A outer s H E hr => ?_) (pure_law_ahead)
  have nd := sc_law_ahead.nd
  exact (pss_cons (ps_for (passes_of rfl) rfl (pi_list (pv 0)) (pg_tup rfl (pgs_cons (pg_name (i := 3) nd rfl (Or.inl rfl)) (pgs_cons (pg_name (i := 4) nd rfl (Or.inl rfl)) pgs_nil))) (pss_cons (ps_par (i := 5) (j := 6) rfl nd rfl rfl (by decide) rfl rfl (pa_cons (pe_ix ix_tup (pe_ixC ix_tup (pv 1) pe_int (fun _ _ => rfl)) (pv 3) (fun _ _ => rfl)) (pa_cons (pe_ix ix_tup (pe_ixC ix_tup (pv 2) pe_int (fun _ _ => rfl)) (pv 3) (fun _ _ => rfl)) pa_nil)) (by rfl))
    (pss_one (ps_if (pt_cmpR op_ne (pv 5) (pv 6) (nomark _)) (pss_one (ps_ret (pe_ifExp (pt_cmpRC op_eq (pv 4) pe_str (nomark _)) (pe_cmpR opx_ltV (pv 5) (pv 6) (nomark _)) (pe_cmpR opx_gtV (pv 5) (pv 6) (nomark _))))) pss_nil))))
    (pss_one (ps_ret (pe_cmpR op_lt (pe_ixC ix_tup (pv 1) pe_int (fun _ _ => rfl)) (pe_ixC ix_tup (pv 2) pe_int (fun _ _ => rfl)) (nomark _)))))
theorem sc_law_sorted : FnScope N_law_sorted P_law_sorted (defScope s_law_sorted) := ⟨rfl, rfl, rfl, by decide +kernel, rfl, by decide +kernel, by decide +kernel⟩
theorem ok_law_sorted (W : Wd K mg base) : Can P w K mg base 2 ("_law_sorted", none) P_law_sorted (sp_law_sorted K) := by
  obtain ⟨fd, F⟩ := W.c.def_ 7 (d := d_law_sorted) rfl
  refine can_of F (F.bindsN fun _ _ _ _ _ _ us hl => match us, hl with | [_, _], _ => rfl) sc_law_sorted (fun vs H Q E h => by unfold sp_law_sorted at h; match vs, h with | [_, _], _ => rfl) (t_law_sorted K) (fun cdv A outer s H E hr => ?_) (pure_law_sorted)
  have nd := sc_law_sorted.nd
  exact (pss_cons (ps_set (i := 2) nd rfl (Or.inl rfl) (pe_lst pa_nil))
    (pss_cons (ps_for (passes_of rfl) rfl (pi_list (pv 1)) (pg_name (i := 3) nd rfl (Or.inl rfl)) (pss_cons (ps_par (i := 4) (j := 5) rfl nd rfl rfl (by decide) rfl rfl (pa_consC pe_int (pa_cons (pe_callB1 call_len_seq (by rfl) (W.free 1 rfl) (by decide +kernel) (pv 2)) pa_nil)) (by rfl))
    (pss_cons (ps_while (passes_of rfl) (pt_cmpR op_lt (pv 4) (pv 5) (nomark _)) (pss_cons (ps_set (i := 6) nd rfl (Or.inl rfl) (pe_opC op_fdivW (pe_op op_add (pv 4) (pv 5)) pe_int))
    (pss_one (ps_if (pt_val (pe_callC (ok_law_ahead W) (hr.mono (by decide)) rfl (W.glo 9 rfl) (passes_call (takes_of rfl rfl rfl rfl) (fun _ _ _ _ h => h)) (pa_cons (pv 0) (pa_cons (pv 3) (pa_cons (pe_ix ix_list (pv 2) (pv 6) (fun _ _ => rfl)) pa_nil))))) (pss_one (ps_set (i := 5) nd rfl (Or.inl rfl) (pv 6))) (pss_one (ps_set (i := 4) nd rfl (Or.inl rfl) (pe_opC op_add (pv 6) pe_int)))))))
    (pss_one (ps_expr (pe_bm PySem.F.plainAttrs_list PySem.F.slot_list_insert PySem.F.type_list_insert mt_insert (pv 2) (pa_cons (pv 4) (pa_cons (pv 3) pa_nil))))))))
    (pss_one (ps_ret (pv 2)))))
theorem sc_law_parts : FnScope N_law_parts P_law_parts (defScope s_law_parts) := ⟨rfl, rfl, rfl, by decide +kernel, rfl, by decide +kernel, by decide +kernel⟩
theorem ok_law_parts (W : Wd K mg base) : Can P w K mg base 3 ("_law_parts", none) P_law_parts (sp_law_parts K) := by
  obtain ⟨fd, F⟩ := W.c.def_ 8 (d := d_law_parts) rfl
  refine can_of F (F.bindsN fun _ _ _ _ _ _ us hl => match us, hl with | [_, _, _, _], _ => rfl) sc_law_parts (fun vs H Q E h => by unfold sp_law_parts at h; match vs, h with | [_, _, _, _], _ => rfl) (t_law_parts K) (fun cdv A outer s H E hr => ?_) (pure_law_parts)
  have nd := sc_law_parts.nd
  exact (pss_cons (ps_setLc (i := 4) (own := [("_law_k", 6)]) rfl nd rfl rfl (sw_true rfl rfl rfl (by decide +kernel)) (pi_range1 (by rfl) (W.free 4 rfl) (pa_cons (pe_opD op_add pe_int (pe_callC (ok_law_take W) (hr.mono (by decide)) rfl (W.glo 3 rfl) (passes_call (takes_of rfl rfl rfl rfl) (fun _ _ _ _ h => h)) (pa_cons (pv 0) (pa_cons (pv 3) pa_nil)))) pa_nil)) (blkOk_by (own := [("_law_k", 6)]) (N := N_law_parts) (sc := defScope s_law_parts) (by decide +kernel)) (fun _ _ _ _ _ => (pg_name (i := 6) nd rfl (Or.inl rfl))) (fun _ _ _ _ _ => pts_nil) (fun _ _ _ _ _ => (pe_lst pa_nil)))
    (pss_cons (ps_set (i := 5) nd rfl (Or.inl rfl) (pe_ix ix_list (pe_lst (pa_consC pe_int (pa_cons (pe_opD op_add pe_int (pe_callC (ok_law_take W) (hr.mono (by decide)) rfl (W.glo 3 rfl) (passes_call (takes_of rfl rfl rfl rfl) (fun _ _ _ _ h => h)) (pa_cons (pv 0) (pa_consC pe_int pa_nil)))) (pa_cons (pe_opC op_pow pe_int pe_int) pa_nil)))) (pe_callC (ok_law_take W) (hr.mono (by decide)) rfl (W.glo 3 rfl) (passes_call (takes_of rfl rfl rfl rfl) (fun _ _ _ _ h => h)) (pa_cons (pv 0) (pa_consC pe_int pa_nil))) (fun _ _ => rfl)))
    (pss_cons (ps_for (passes_of rfl) rfl (pi_range1 (by rfl) (W.free 4 rfl) (pa_cons (pe_callB1 call_len_seq (by rfl) (W.free 1 rfl) (by decide +kernel) (pv 2)) pa_nil)) (pg_name (i := 6) nd rfl (Or.inl rfl)) (pss_one (ps_expr (pe_bm PySem.F.plainAttrs_list PySem.F.slot_list_append PySem.F.type_list_append mt_append (pe_ix ix_list (pv 4) (pe_callC (ok_law_take W) (hr.mono (by decide)) rfl (W.glo 3 rfl) (passes_call (takes_of rfl rfl rfl rfl) (fun _ _ _ _ h => h)) (pa_cons (pv 0) (pa_cons (pe_callB1 call_len_seq (by rfl) (W.free 1 rfl) (by decide +kernel) (pv 4)) pa_nil))) (fun _ _ => rfl)) (pa_cons (pe_tup (pa_cons (pe_op op_mul (pv 6) (pv 5)) (pa_cons (pe_ix ix_list (pv 2) (pv 6) (fun _ _ => rfl)) pa_nil))) pa_nil)))))
    (pss_one (ps_ret (pe_lc (own := [("_law_run", 7)]) rfl nd (pi_list (pv 4)) (blkOk_by (own := [("_law_run", 7)]) (N := N_law_parts) (sc := defScope s_law_parts) (by decide +kernel)) (fun _ _ _ _ _ => (pg_name (i := 7) nd rfl (Or.inl rfl))) (fun _ _ _ _ _ => pts_nil) (fun _ _ _ _ _ => (pe_callC (ok_law_sorted W) (hr.mono (by decide)) rfl (W.glo 10 rfl) passL (pa_cons (pv 1) (pa_cons (pv 7) pa_nil))))))))))
theorem sc_need_kinds : FnScope N_need_kinds P_need_kinds (defScope s_need_kinds) := ⟨rfl, rfl, rfl, by decide +kernel, rfl, by decide +kernel, by decide +kernel⟩
theorem ok_need_kinds (W : Wd K mg base) : Can P w K mg base 1 ("need_kinds", none) P_need_kinds (sp_need_kinds K) := by
  obtain ⟨fd, F⟩ := W.c.def_ 9 (d := d_need_kinds) rfl
  refine can_of F (F.bindsN fun _ _ _ _ _ _ us hl => match us, hl with | [_], _ => rfl) sc_need_kinds (fun vs H Q E h => by unfold sp_need_kinds at h; match vs, h with | [_], _ => rfl) (t_need_kinds K) (fun cdv A outer s H E hr => ?_) (pure_need_kinds)
  have nd := sc_need_kinds.nd
  exact (pss_one (ps_if (PW.pt (pw_or (pt_not (pt_chain op_le op_le pe_int (pe_callB1 call_len_seq (by rfl) (W.free 1 rfl) (by decide +kernel) (pv 0)) (pe_gint rfl (W.int 11 rfl)))) (pw_or1 (pt_cmpR (opx_neE (hu_of hr)) (pe_lc (own := [("kind", 1)]) rfl nd (pi_tup (pv 0)) (blkOk_by (own := [("kind", 1)]) (N := N_need_kinds) (sc := defScope s_need_kinds) (by decide +kernel)) (fun _ _ _ _ _ => (pg_name (i := 1) nd rfl (Or.inl rfl))) (fun _ _ _ _ _ => (pts_one (pt_cmpR op_notIn_seq (pv 1) (pe_tup (pa_consC (pe_gstr rfl (W.str 12 rfl)) (pa_consC (pe_gstr rfl (W.str 13 rfl)) pa_nil))) (by rfl)))) (fun _ _ _ _ _ => (pv 1))) (pe_lst pa_nil) (nomark _))))) (pss_one ps_never) pss_nil))
theorem sc_is_turn : FnScope N_is_turn P_is_turn (defScope s_is_turn) := ⟨rfl, rfl, rfl, by decide +kernel, rfl, by decide +kernel, by decide +kernel⟩
theorem ok_is_turn (W : Wd K mg base) : Can P w K mg base 1 ("is_turn", none) P_is_turn (sp_is_turn K) := by
  obtain ⟨fd, F⟩ := W.c.def_ 10 (d := d_is_turn) rfl
  refine can_of F (F.bindsN fun _ _ _ _ _ _ us hl => match us, hl with | [_, _], _ => rfl) sc_is_turn (fun vs H Q E h => by unfold sp_is_turn at h; match vs, h with | [_, _], _ => rfl) (t_is_turn K) (fun cdv A outer s H E hr => ?_) (pure_is_turn)
  have nd := sc_is_turn.nd
  exact (pss_one (ps_ret (pe_and (pe_cmpRC op_eq (pe_callB1 call_len_seq (by rfl) (W.free 1 rfl) (by decide +kernel) (pv 1)) pe_int (nomark _)) (pe_and (pe_chain op_le op_lt pe_int (pe_ixC ix_tup (pv 1) pe_int (fun _ _ => rfl)) (pe_callB1 call_len_seq (by rfl) (W.free 1 rfl) (by decide +kernel) (pv 0))) (pe_one (pe_cmpR op_in_seq (pe_ixC ix_tup (pv 1) pe_int (fun _ _ => rfl)) (pe_tup (pa_consC (pe_gstr rfl (W.str 14 rfl)) (pa_consC (pe_gstr rfl (W.str 15 rfl)) pa_nil))) (by rfl)))))))
theorem sc_need_order : FnScope N_need_order P_need_order (defScope s_need_order) := ⟨rfl, rfl, rfl, by decide +kernel, rfl, by decide +kernel, by decide +kernel⟩
theorem ok_need_order (W : Wd K mg base) : Can P w K mg base 2 ("need_order", none) P_need_order (sp_need_order K) := by
  obtain ⟨fd, F⟩ := W.c.def_ 11 (d := d_need_order) rfl
  refine can_of F (F.bindsN fun _ _ _ _ _ _ us hl => match us, hl with | [_, _], _ => rfl) sc_need_order (fun vs H Q E h => by unfold sp_need_order at h; match vs, h with | [_, _], _ => rfl) (t_need_order K) (fun cdv A outer s H E hr => ?_) (pure_need_order)
  have nd := sc_need_order.nd
  exact (pss_cons (ps_setLc (i := 2) (own := [("turn", 3)]) rfl nd rfl rfl (sw_true rfl rfl rfl (by decide +kernel)) (pi_list (pv 1)) (blkOk_by (own := [("turn", 3)]) (N := N_need_order) (sc := defScope s_need_order) (by decide +kernel)) (fun _ _ _ _ _ => (pg_name (i := 3) nd rfl (Or.inl rfl))) (fun _ _ _ _ _ => (pts_one (pt_val (pe_callC (ok_is_turn W) (hr.mono (by decide)) rfl (W.glo 16 rfl) passL (pa_cons (pv 0) (pa_cons (pv 3) pa_nil)))))) (fun _ _ _ _ _ => (pv 3)))
    (pss_one (ps_if (PW.pt (pw_or (pt_cmpRC op_eq (pe_callB1 call_len_seq (by rfl) (W.free 1 rfl) (by decide +kernel) (pv 2)) pe_int (nomark _)) (pw_or (pt_cmpR op_ne (pe_callB1 call_len_seq (by rfl) (W.free 1 rfl) (by decide +kernel) (pv 2)) (pe_callB1 call_len_seq (by rfl) (W.free 1 rfl) (by decide +kernel) (pv 1)) (nomark _)) (pw_or1 (pt_cmpR op_ne (pe_lenSetX rfl (W.free 1 rfl) rfl (W.free 17 rfl) (pe_lc (own := [("turn", 3)]) rfl nd (pi_list (pv 2)) (blkOk_by (own := [("turn", 3)]) (N := N_need_order) (sc := defScope s_need_order) (by decide +kernel)) (fun _ _ _ _ _ => (pg_name (i := 3) nd rfl (Or.inl rfl))) (fun _ _ _ _ _ => pts_nil) (fun _ _ _ _ _ => (pe_ixC ix_tup (pv 3) pe_int (fun _ _ => rfl))))) (pe_callB1 call_len_seq (by rfl) (W.free 1 rfl) (by decide +kernel) (pv 2)) (nomark _)))))) (pss_one ps_never) pss_nil)))
theorem sc_is_before : FnScope N_is_before P_is_before (defScope s_is_before) := ⟨rfl, rfl, rfl, by decide +kernel, rfl, by decide +kernel, by decide +kernel⟩
theorem ok_is_before (W : Wd K mg base) : Can P w K mg base 1 ("is_before", none) P_is_before (sp_is_before K) := by
  obtain ⟨fd, F⟩ := W.c.def_ 12 (d := d_is_before) rfl
  refine can_of F (F.bindsN fun _ _ _ _ _ _ us hl => match us, hl with | [_, _, _], _ => rfl) sc_is_before (fun vs H Q E h => by unfold sp_is_before at h; match vs, h with | [_, _, _], _ => rfl) (t_is_before K) (fun cdv A outer s H E hr => ?_) (pure_is_before)
  have nd := sc_is_before.nd
  exact (pss_cons (ps_for (passes_of rfl) rfl (pi_list (pv 0)) (pg_tup rfl (pgs_cons (pg_name (i := 3) nd rfl (Or.inl rfl)) (pgs_cons (pg_name (i := 4) nd rfl (Or.inl rfl)) pgs_nil))) (pss_one (ps_if (pt_cmpR op_ne (pe_ix ix_tup (pe_ixC ix_tup (pv 1) pe_int (fun _ _ => rfl)) (pv 3) (fun _ _ => rfl)) (pe_ix ix_tup (pe_ixC ix_tup (pv 2) pe_int (fun _ _ => rfl)) (pv 3) (fun _ _ => rfl)) (nomark _)) (pss_one (ps_ret (pe_cmpR op_eq (pe_cmpR opx_ltV (pe_ix ix_tup (pe_ixC ix_tup (pv 1) pe_int (fun _ _ => rfl)) (pv 3) (fun _ _ => rfl)) (pe_ix ix_tup (pe_ixC ix_tup (pv 2) pe_int (fun _ _ => rfl)) (pv 3) (fun _ _ => rfl)) (nomark _)) (pe_cmpRC op_eq (pv 4) (pe_gstr rfl (W.str 14 rfl)) (nomark _)) (nomark _)))) pss_nil)))
    (pss_one (ps_ret (pe_cmpR op_lt (pe_ixC ix_tup (pv 1) pe_int (fun _ _ => rfl)) (pe_ixC ix_tup (pv 2) pe_int (fun _ _ => rfl)) (nomark _)))))
theorem sc_Tree_lesser : FnScope N_Tree_lesser P_Tree_lesser (defScope s_Tree_lesser) := ⟨rfl, rfl, rfl, by decide +kernel, rfl, by decide +kernel, by decide +kernel⟩
theorem ok_Tree_lesser (W : Wd K mg base) : Can P w K mg base 2 ("Tree", some "lesser") P_Tree_lesser (sp_Tree_lesser K) := by
  obtain ⟨fd, F⟩ := W.c.def_ 13 (d := d_Tree_lesser) rfl
  refine can_of F (F.bindsN fun _ _ _ _ _ _ us hl => match us, hl with | [_, _, _], _ => rfl) sc_Tree_lesser (fun vs H Q E h => by unfold sp_Tree_lesser at h; match vs, h with | [_, _, _], _ => rfl) (t_Tree_lesser K) (fun cdv A outer s H E hr => ?_) (pure_Tree_lesser W.txt_Tree)
  have nd := sc_Tree_lesser.nd
  exact (pss_cons (ps_if (PW.pt (pw_or (pt_cmpRC op_isN1 (pv 1) pe_non (nomark _)) (pw_or1 (pt_cmpRC op_isN1 (pv 2) pe_non (nomark _))))) (pss_one (ps_ret (pe_ifExp (pt_cmpRC op_isN1 (pv 1) pe_non (nomark _)) (pv 2) (pv 1)))) pss_nil)
    (pss_cons (ps_fl (pv 0) (pe_opC op_add (pe_fl (pv 0) rfl) pe_int) rfl)
    (pss_one (ps_ret (pe_ifExp (pt_val (pe_callC (ok_is_before W) (hr.mono (by decide)) rfl (W.glo 18 rfl) (passes_call (takes_of rfl rfl rfl rfl) (fun _ _ _ _ h => h)) (pa_cons (pe_fl (pv 0) rfl) (pa_cons (pe_ix ix_list (pe_fl (pv 0) rfl) (pv 1) (fun _ _ => rfl)) (pa_cons (pe_ix ix_list (pe_fl (pv 0) rfl) (pv 2) (fun _ _ => rfl)) pa_nil))))) (pv 1) (pv 2))))))
theorem sc_Tree___init__ : FnScope N_Tree___init__ P_Tree___init__ (defScope s_Tree___init__) := ⟨rfl, rfl, rfl, by decide +kernel, rfl, by decide +kernel, by decide +kernel⟩
theorem ok_Tree___init__ (W : Wd K mg base) : Can P w K mg base 3 ("Tree", some "__init__") P_Tree___init__ (sp_Tree___init__ K) := by
  obtain ⟨fd, F⟩ := W.c.def_ 14 (d := d_Tree___init__) rfl
  refine can_of F (F.bindsN fun _ _ _ _ _ _ us hl => match us, hl with | [_, _, _], _ => rfl) sc_Tree___init__ (fun vs H Q E h => by unfold sp_Tree___init__ at h; match vs, h with | [_, _, _], _ => rfl) (t_Tree___init__ K) (fun cdv A outer s H E hr => ?_) (pure_Tree___init__ W.txt_Tree)
  have nd := sc_Tree___init__.nd
  exact (pss_cons (ps_fl (pv 0) (pv 1) rfl)
    (pss_cons (ps_fl (pv 0) (pe_callTy1 call_list_of (by rfl) (W.free 0 rfl) (by decide +kernel) (pv 2)) rfl)
    (pss_cons (ps_fl (pv 0) pe_int rfl)
    (pss_cons (ps_fl (pv 0) pe_int rfl)
    (pss_cons (ps_while (passes_of rfl) (pt_cmpR op_lt (pe_fl (pv 0) rfl) (pe_callB1 call_len_seq (by rfl) (W.free 1 rfl) (by decide +kernel) (pe_fl (pv 0) rfl)) (nomark _)) (pss_one (ps_fl (pv 0) (pe_opD op_mul pe_int (pe_fl (pv 0) rfl)) rfl)))
    (pss_cons (ps_fl (pv 0) (pe_op op_rep (pe_lst (pa_consC pe_non pa_nil)) (pe_fl (pv 0) rfl)) rfl)
    (pss_cons (ps_for (passes_of rfl) rfl (pi_range1 (by rfl) (W.free 4 rfl) (pa_cons (pe_fl (pv 0) rfl) pa_nil)) (pg_name (i := 3) nd rfl (Or.inl rfl)) (pss_one (ps_expr (pe_bm PySem.F.plainAttrs_list PySem.F.slot_list_append PySem.F.type_list_append mt_append (pe_fl (pv 0) rfl) (pa_cons (pe_ifExp (PW.pt (pw_and (pt_cmpR op_lt (pv 3) (pe_callB1 call_len_seq (by rfl) (W.free 1 rfl) (by decide +kernel) (pe_fl (pv 0) rfl)) (nomark _)) (pw_and1 (pt_cmpRC op_notN1 (pe_ix ix_list (pe_fl (pv 0) rfl) (pv 3) (fun _ _ => rfl)) pe_non (nomark _))))) (pv 3) pe_non) pa_nil)))))
    (pss_one (ps_for (passes_of rfl) rfl (pi_range3 (by rfl) (W.free 4 rfl) (pa_cons (pe_opC op_sub (pe_fl (pv 0) rfl) pe_int) (pa_consC pe_int (pa_consC (pe_unN pe_int) pa_nil)))) (pg_name (i := 4) nd rfl (Or.inl rfl)) (pss_one (ps_asg (pe_methC (pv 0) (W.cls 20 rfl) (W.meth 19 rfl) (ok_Tree_lesser W) (hr.mono (by decide)) (passes_call (takes_of rfl rfl rfl rfl) (fun _ _ _ _ h => h)) (pa_cons (pe_ix ix_list (pe_fl (pv 0) rfl) (pe_opD op_mul pe_int (pv 4)) (fun _ _ => rfl)) (pa_cons (pe_ix ix_list (pe_fl (pv 0) rfl) (pe_opC op_add (pe_opD op_mul pe_int (pv 4)) pe_int) (fun _ _ => rfl)) pa_nil))) (pg_sub (pe_fl (pv 0) rfl) (pv 4) set_list))))))))))))
abbrev N_BadText___init__ : List Str := ["self", "place"]
abbrev P_BadText___init__ : List Str := ["self", "place"]
theorem sc_BadText___init__ : FnScope N_BadText___init__ P_BadText___init__ (defScope s_BadText___init__) := ⟨rfl, rfl, rfl, by decide +kernel, rfl, by decide +kernel, by decide +kernel⟩
theorem ok_BadText___init__ (W : Wd K mg base) : Can P w K mg base 1 ("BadText", some "__init__") P_BadText___init__ (sp_einit K "place") := by
  obtain ⟨fd, F⟩ := W.c.def_ 15 (d := d_BadText___init__) rfl
  refine can_of F (F.bindsN fun _ _ _ _ _ _ us hl => match us, hl with | [_, _], _ => rfl) sc_BadText___init__ (fun vs H Q E h => by unfold sp_einit at h; match vs, h with | [_, _], _ => rfl) (fun _ => t_einit K "place" "a bad word") (fun cdv A outer s H E hr => ?_) (pure_einit rfl)
  have nd := sc_BadText___init__.nd
  exact (pss_cons (ps_expr (pe_binit (W.em 0 rfl).base rfl (W.glo 21 rfl) (pa_cons (pv 0) (pa_consC pe_str pa_nil))))
    (pss_one (ps_ost (pv 0) (pv 1))))
abbrev N_BadRows___init__ : List Str := ["self", "place"]
abbrev P_BadRows___init__ : List Str := ["self", "place"]
theorem sc_BadRows___init__ : FnScope N_BadRows___init__ P_BadRows___init__ (defScope s_BadRows___init__) := ⟨rfl, rfl, rfl, by decide +kernel, rfl, by decide +kernel, by decide +kernel⟩
theorem ok_BadRows___init__ (W : Wd K mg base) : Can P w K mg base 1 ("BadRows", some "__init__") P_BadRows___init__ (sp_einit K "place") := by
  obtain ⟨fd, F⟩ := W.c.def_ 16 (d := d_BadRows___init__) rfl
  refine can_of F (F.bindsN fun _ _ _ _ _ _ us hl => match us, hl with | [_, _], _ => rfl) sc_BadRows___init__ (fun vs H Q E h => by unfold sp_einit at h; match vs, h with | [_, _], _ => rfl) (fun _ => t_einit K "place" "no rows") (fun cdv A outer s H E hr => ?_) (pure_einit rfl)
  have nd := sc_BadRows___init__.nd
  exact (pss_cons (ps_expr (pe_binit (W.em 1 rfl).base rfl (W.glo 21 rfl) (pa_cons (pv 0) (pa_consC pe_str pa_nil))))
    (pss_one (ps_ost (pv 0) (pv 1))))
abbrev N_BadRuns___init__ : List Str := ["self", "number"]
abbrev P_BadRuns___init__ : List Str := ["self", "number"]
theorem sc_BadRuns___init__ : FnScope N_BadRuns___init__ P_BadRuns___init__ (defScope s_BadRuns___init__) := ⟨rfl, rfl, rfl, by decide +kernel, rfl, by decide +kernel, by decide +kernel⟩
theorem ok_BadRuns___init__ (W : Wd K mg base) : Can P w K mg base 1 ("BadRuns", some "__init__") P_BadRuns___init__ (sp_einit K "number") := by
  obtain ⟨fd, F⟩ := W.c.def_ 17 (d := d_BadRuns___init__) rfl
  refine can_of F (F.bindsN fun _ _ _ _ _ _ us hl => match us, hl with | [_, _], _ => rfl) sc_BadRuns___init__ (fun vs H Q E h => by unfold sp_einit at h; match vs, h with | [_, _], _ => rfl) (fun _ => t_einit K "number" "no runs") (fun cdv A outer s H E hr => ?_) (pure_einit rfl)
  have nd := sc_BadRuns___init__.nd
  exact (pss_cons (ps_expr (pe_binit (W.em 2 rfl).base rfl (W.glo 21 rfl) (pa_cons (pv 0) (pa_consC pe_str pa_nil))))
    (pss_one (ps_ost (pv 0) (pv 1))))
theorem sc_is_value : FnScope N_is_value P_is_value (defScope s_is_value) := ⟨rfl, rfl, rfl, by decide +kernel, rfl, by decide +kernel, by decide +kernel⟩
theorem ok_is_value (W : Wd K mg base) : Can P w K mg base 1 ("is_value", none) P_is_value (sp_is_value K) := by
  obtain ⟨fd, F⟩ := W.c.def_ 18 (d := d_is_value) rfl
  refine can_of F (F.bindsN fun _ _ _ _ _ _ us hl => match us, hl with | [_, _], _ => rfl) sc_is_value (fun vs H Q E h => by unfold sp_is_value at h; match vs, h with | [_, _], _ => rfl) (t_is_value K) (fun cdv A outer s H E hr => ?_) (pure_is_value)
  have nd := sc_is_value.nd
  exact (pss_cons (ps_if (pt_cmpRC op_eq (pv 0) (pe_gstr rfl (W.str 13 rfl)) (nomark _)) (pss_cons (ps_if (PW.pt (pw_or (pt_not (pt_val (pe_isi (by rfl) (W.free 22 rfl) (pv 1) (pe_bltn (v := .ty "str") rfl (W.free 23 rfl) (by decide +kernel) rfl)))) (pw_or1 (pt_cmpRC op_gt (pe_callB1 call_len_str (by rfl) (W.free 1 rfl) (by decide +kernel) (pv 1)) (pe_gint rfl (W.int 24 rfl)) (nomark _))))) (pss_one (ps_ret pe_bl)) pss_nil)
    (pss_one (ps_ret (pe_cmpR (opx_eqE (hu_of hr)) (pe_lc (own := [("sign", 2)]) rfl nd (pi_str (pv 1)) (blkOk_by (own := [("sign", 2)]) (N := N_is_value) (sc := defScope s_is_value) (by decide +kernel)) (fun _ _ _ _ _ => (pg_name (i := 2) nd rfl (Or.inl rfl))) (fun _ _ _ _ _ => (pts_one (pt_cmpRC op_notInS (pv 2) (pe_gstr rfl (W.str 25 rfl)) (by rfl)))) (fun _ _ _ _ _ => (pv 2))) (pe_lst pa_nil) (nomark _))))) pss_nil)
    (pss_one (ps_ret (pe_and (pe_isi (by rfl) (W.free 22 rfl) (pv 1) (pe_bltn (v := .ty "int") rfl (W.free 2 rfl) (by decide +kernel) rfl)) (pe_and (pe_not (pe_isi (by rfl) (W.free 22 rfl) (pv 1) (pe_bltn (v := .ty "bool") rfl (W.free 26 rfl) (by decide +kernel) rfl))) (pe_one (pe_chain op_le op_le (pe_opC op_sub pe_int (pe_gint rfl (W.int 27 rfl))) (pv 1) (pe_gint rfl (W.int 27 rfl)))))))))
theorem sc_is_row : FnScope N_is_row P_is_row (defScope s_is_row) := ⟨rfl, rfl, rfl, by decide +kernel, rfl, by decide +kernel, by decide +kernel⟩
theorem ok_is_row (W : Wd K mg base) : Can P w K mg base 2 ("is_row", none) P_is_row (sp_is_row K) := by
  obtain ⟨fd, F⟩ := W.c.def_ 19 (d := d_is_row) rfl
  refine can_of F (F.bindsN fun _ _ _ _ _ _ us hl => match us, hl with | [_, _], _ => rfl) sc_is_row (fun vs H Q E h => by unfold sp_is_row at h; match vs, h with | [_, _], _ => rfl) (t_is_row K) (fun cdv A outer s H E hr => ?_) (pure_is_row)
  have nd := sc_is_row.nd
  exact (pss_cons (ps_if (pt_cmpR op_ne (pe_callB1 call_len_seq (by rfl) (W.free 1 rfl) (by decide +kernel) (pv 1)) (pe_callB1 call_len_seq (by rfl) (W.free 1 rfl) (by decide +kernel) (pv 0)) (nomark _)) (pss_one (ps_ret pe_bl)) pss_nil)
    (pss_one (ps_ret (pe_cmpR (opx_eqE (hu_of hr)) (pe_lc (own := [("k", 2)]) rfl nd (pi_range1 (by rfl) (W.free 4 rfl) (pa_cons (pe_callB1 call_len_seq (by rfl) (W.free 1 rfl) (by decide +kernel) (pv 0)) pa_nil)) (blkOk_by (own := [("k", 2)]) (N := N_is_row) (sc := defScope s_is_row) (by decide +kernel)) (fun _ _ _ _ _ => (pg_name (i := 2) nd rfl (Or.inl rfl))) (fun _ _ _ _ _ => (pts_one (pt_not (pt_val (pe_callC (ok_is_value W) (hr.mono (by decide)) rfl (W.glo 28 rfl) passL (pa_cons (pe_ix ix_tup (pv 0) (pv 2) (fun _ _ => rfl)) (pa_cons (pe_ix ix_tup (pv 1) (pv 2) (fun _ _ => rfl)) pa_nil))))))) (fun _ _ _ _ _ => (pv 2))) (pe_lst pa_nil) (nomark _)))))
theorem sc_is_run : FnScope N_is_run P_is_run (defScope s_is_run) := ⟨rfl, rfl, rfl, by decide +kernel, rfl, by decide +kernel, by decide +kernel⟩
theorem ok_is_run (W : Wd K mg base) : Can P w K mg base 3 ("is_run", none) P_is_run (sp_is_run K) := by
  obtain ⟨fd, F⟩ := W.c.def_ 20 (d := d_is_run) rfl
  refine can_of F (F.bindsN fun _ _ _ _ _ _ us hl => match us, hl with | [_, _, _], _ => rfl) sc_is_run (fun vs H Q E h => by unfold sp_is_run at h; match vs, h with | [_, _, _], _ => rfl) (t_is_run K) (fun cdv A outer s H E hr => ?_) (pure_is_run)
  have nd := sc_is_run.nd
  exact (pss_cons (ps_for (passes_of rfl) rfl (pi_list (pv 2)) (pg_tup rfl (pgs_cons (pg_name (i := 3) nd rfl (Or.inl rfl)) (pgs_cons (pg_name (i := 4) nd rfl (Or.inl rfl)) pgs_nil))) (pss_one (ps_if (PW.pt (pw_or (pt_cmpRC op_lt (pv 3) pe_int (nomark _)) (pw_or1 (pt_not (pt_val (pe_callC (ok_is_row W) (hr.mono (by decide)) rfl (W.glo 29 rfl) (passes_call (takes_of rfl rfl rfl rfl) (fun _ _ _ _ h => h)) (pa_cons (pv 0) (pa_cons (pv 4) pa_nil)))))))) (pss_one (ps_ret pe_bl)) pss_nil)))
    (pss_one (ps_ret (pe_cmpR (opx_eqE (hu_of hr)) (pe_lc (own := [("k", 5)]) rfl nd (pi_range2 (by rfl) (W.free 4 rfl) (pa_consC pe_int (pa_cons (pe_callB1 call_len_seq (by rfl) (W.free 1 rfl) (by decide +kernel) (pv 2)) pa_nil))) (blkOk_by (own := [("k", 5)]) (N := N_is_run) (sc := defScope s_is_run) (by decide +kernel)) (fun _ _ _ _ _ => (pg_name (i := 5) nd rfl (Or.inl rfl))) (fun _ _ _ _ _ => (pts_one (pt_not (pt_val (pe_callC (ok_is_before W) (hr.mono (by decide)) rfl (W.glo 18 rfl) passL (pa_cons (pv 1) (pa_cons (pe_ix ix_list (pv 2) (pe_opC op_sub (pv 5) pe_int) (fun _ _ => rfl)) (pa_cons (pe_ix ix_list (pv 2) (pv 5) (fun _ _ => rfl)) pa_nil)))))))) (fun _ _ _ _ _ => (pv 5))) (pe_lst pa_nil) (nomark _)))))
theorem sc_need_runsX : FnScope N_need_runsX P_need_runsX (defScope s_need_runsX) := ⟨rfl, rfl, rfl, by decide +kernel, rfl, by decide +kernel, by decide +kernel⟩
theorem ok_need_runsX (W : Wd K mg base) : Can P w K mg base 4 ("need_runs", none) P_need_runsX (sp_need_runsX K) := by
  obtain ⟨fd, F⟩ := W.c.def_ 21 (d := d_need_runsX) rfl
  refine can_of F (F.bindsN fun _ _ _ _ _ _ us hl => match us, hl with | [_, _, _], _ => rfl) sc_need_runsX (fun vs H Q E h => by unfold sp_need_runsX at h; match vs, h with | [_, _, _], _ => rfl) (t_need_runsX K) (fun cdv A outer s H E hr => ?_) (pure_need_runsX)
  have nd := sc_need_runsX.nd
  exact (pss_cons (ps_set (i := 3) nd rfl (Or.inl rfl) pe_dnewK)
    (pss_one (ps_for (passes_of rfl) rfl (pi_enum (by rfl) (W.free 30 rfl) (pa_cons (pv 2) pa_nil)) (pg_tup rfl (pgs_cons (pg_name (i := 4) nd rfl (Or.inl rfl)) (pgs_cons (pg_name (i := 5) nd rfl (Or.inl rfl)) pgs_nil))) (pss_cons (ps_if (PW.pt (pw_or (pt_cmpRC op_ge (pv 4) (pe_gint rfl (W.int 31 rfl)) (nomark _)) (pw_or1 (pt_not (pt_val (pe_callC (ok_is_run W) (hr.mono (by decide)) rfl (W.glo 32 rfl) (passes_call (takes_of rfl rfl rfl rfl) (fun _ _ _ _ h => h)) (pa_cons (pv 0) (pa_cons (pv 1) (pa_cons (pv 5) pa_nil))))))))) (pss_one (ps_raiseX (W.em 2 rfl) (ok_BadRuns___init__ W) (hr.mono (by decide)) rfl (W.glo 33 rfl) rfl (takes_of rfl rfl rfl rfl) (pa_cons (pv 4) pa_nil))) pss_nil)
    (pss_one (ps_for (passes_of rfl) rfl (pi_list (pv 5)) (pg_name (i := 6) nd rfl (Or.inl rfl)) (pss_cons (ps_if (pt_cmp (pc_din (hu_of hr) (pe_ixC ix_tup (pv 6) pe_int (fun _ _ => rfl)) (pv 3)) rfl) (pss_one (ps_raiseX (W.em 2 rfl) (ok_BadRuns___init__ W) (hr.mono (by decide)) rfl (W.glo 33 rfl) rfl (takes_of rfl rfl rfl rfl) (pa_cons (pv 4) pa_nil))) pss_nil)
    (pss_one (ps_dput (hu_of hr) (pv 3) (pe_ixC ix_tup (pv 6) pe_int (fun _ _ => rfl)) pe_bl rfl)))))))))
theorem sc_Tree_first : FnScope N_Tree_first P_Tree_first (defScope s_Tree_first) := ⟨rfl, rfl, rfl, by decide +kernel, rfl, by decide +kernel, by decide +kernel⟩
theorem ok_Tree_first (W : Wd K mg base) : Can P w K mg base 1 ("Tree", some "first") P_Tree_first (sp_Tree_first K) := by
  obtain ⟨fd, F⟩ := W.c.def_ 22 (d := d_Tree_first) rfl
  refine can_of F (F.bindsN fun _ _ _ _ _ _ us hl => match us, hl with | [_], _ => rfl) sc_Tree_first (fun vs H Q E h => by unfold sp_Tree_first at h; match vs, h with | [_], _ => rfl) (t_Tree_first K) (fun cdv A outer s H E hr => ?_) (pure_Tree_first W.txt_Tree)
  have nd := sc_Tree_first.nd
  exact (pss_one (ps_ret (pe_ifExp (pt_cmpRC op_gt (pe_fl (pv 0) rfl) pe_int (nomark _)) (pe_ixC ix_list (pe_fl (pv 0) rfl) pe_int (fun _ _ => rfl)) (pe_ixC ix_list (pe_fl (pv 0) rfl) (pe_unN pe_int) (fun _ _ => rfl)))))
theorem sc_Tree_turn : FnScope N_Tree_turn P_Tree_turn (defScope s_Tree_turn) := ⟨rfl, rfl, rfl, by decide +kernel, rfl, by decide +kernel, by decide +kernel⟩
theorem ok_Tree_turn (W : Wd K mg base) : Can P w K mg base 3 ("Tree", some "turn") P_Tree_turn (sp_Tree_turn K) := by
  obtain ⟨fd, F⟩ := W.c.def_ 23 (d := d_Tree_turn) rfl
  refine can_of F (F.bindsN fun _ _ _ _ _ _ us hl => match us, hl with | [_, _, _], _ => rfl) sc_Tree_turn (fun vs H Q E h => by unfold sp_Tree_turn at h; match vs, h with | [_, _, _], _ => rfl) (t_Tree_turn K) (fun cdv A outer s H E hr => ?_) (pure_Tree_turn W.txt_Tree)
  have nd := sc_Tree_turn.nd
  exact (pss_cons (ps_asg (pv 2) (pg_sub (pe_fl (pv 0) rfl) (pv 1) set_list))
    (pss_cons (ps_set (i := 3) nd rfl (Or.inl rfl) (pe_op op_add (pe_fl (pv 0) rfl) (pv 1)))
    (pss_cons (ps_asg (pe_ifExp (pt_cmpRC op_notN1 (pv 2) pe_non (nomark _)) (pv 1) pe_non) (pg_sub (pe_fl (pv 0) rfl) (pv 3) set_list))
    (pss_one (ps_while (passes_of rfl) (pt_cmpRC op_gt (pv 3) pe_int (nomark _)) (pss_cons (ps_set (i := 3) nd rfl (Or.inl rfl) (pe_opC op_fdivW (pv 3) pe_int))
    (pss_one (ps_asg (pe_methC (pv 0) (W.cls 20 rfl) (W.meth 19 rfl) (ok_Tree_lesser W) (hr.mono (by decide)) (passes_call (takes_of rfl rfl rfl rfl) (fun _ _ _ _ h => h)) (pa_cons (pe_ix ix_list (pe_fl (pv 0) rfl) (pe_opD op_mul pe_int (pv 3)) (fun _ _ => rfl)) (pa_cons (pe_ix ix_list (pe_fl (pv 0) rfl) (pe_opC op_add (pe_opD op_mul pe_int (pv 3)) pe_int) (fun _ _ => rfl)) pa_nil))) (pg_sub (pe_fl (pv 0) rfl) (pv 3) set_list)))))))))
theorem sc_mergedX : FnScope N_mergedX P_mergedX (defScope s_mergedX) := ⟨rfl, rfl, rfl, by decide +kernel, rfl, by decide +kernel, by decide +kernel⟩
theorem ok_mergedX (W : Wd K mg base) : Can P w K mg base 5 ("merged", none) P_mergedX (sp_mergedX K) := by
  obtain ⟨fd, F⟩ := W.c.def_ 24 (d := d_mergedX) rfl
  refine can_of F (F.bindsN fun _ _ _ _ _ _ us hl => match us, hl with | [_, _, _], _ => rfl) sc_mergedX (fun vs H Q E h => by unfold sp_mergedX at h; match vs, h with | [_, _, _], _ => rfl) (t_mergedX K) (fun cdv A outer s H E hr => ?_) (pure_mergedX W.txt_Tree)
  have nd := sc_mergedX.nd
  exact (pss_cons (ps_expr (pe_callC (ok_need_kinds W) (hr.mono (by decide)) rfl (W.glo 34 rfl) (passes_call (takes_of rfl rfl rfl rfl) (fun _ _ _ _ h => h)) (pa_cons (pv 0) pa_nil)))
    (pss_cons (ps_expr (pe_callC (ok_need_order W) (hr.mono (by decide)) rfl (W.glo 35 rfl) (passes_call (takes_of rfl rfl rfl rfl) (fun _ _ _ _ h => h)) (pa_cons (pv 0) (pa_cons (pv 1) pa_nil))))
    (pss_cons (ps_expr (pe_callC (ok_need_runsX W) (hr.mono (by decide)) rfl (W.glo 36 rfl) (passes_call (takes_of rfl rfl rfl rfl) (fun _ _ _ _ h => h)) (pa_cons (pv 0) (pa_cons (pv 1) (pa_cons (pv 2) pa_nil)))))
    (pss_cons (ps_setLc (i := 3) (own := [("run", 7)]) rfl nd rfl rfl (sw_true rfl rfl rfl (by decide +kernel)) (pi_list (pv 2)) (blkOk_by (own := [("run", 7)]) (N := N_mergedX) (sc := defScope s_mergedX) (by decide +kernel)) (fun _ _ _ _ _ => (pg_name (i := 7) nd rfl (Or.inl rfl))) (fun _ _ _ _ _ => pts_nil) (fun _ _ _ _ _ => pe_int))
    (pss_cons (ps_set (i := 4) nd rfl (Or.inl rfl) (pe_makeC (W.mkr 37 rfl) (ok_Tree___init__ W) (hr.mono (by decide)) rfl (W.glo 38 rfl) (passes_call (takes_of rfl rfl rfl rfl) (fun _ _ _ _ h => h)) (pa_cons (pe_callTy1 call_list_of (by rfl) (W.free 0 rfl) (by decide +kernel) (pv 1)) (pa_cons (pe_lc (own := [("run", 7)]) rfl nd (pi_list (pv 2)) (blkOk_by (own := [("run", 7)]) (N := N_mergedX) (sc := defScope s_mergedX) (by decide +kernel)) (fun _ _ _ _ _ => (pg_name (i := 7) nd rfl (Or.inl rfl))) (fun _ _ _ _ _ => pts_nil) (fun _ _ _ _ _ => (pe_ifExp (pt_cmpR (opx_neE (hu_of hr)) (pv 7) (pe_lst pa_nil) (nomark _)) (pe_ixC ix_list (pv 7) pe_int (fun _ _ => rfl)) pe_non))) pa_nil))))
    (pss_cons (ps_set (i := 5) nd rfl (Or.inl rfl) (pe_lst pa_nil))
    (pss_cons (ps_set (i := 6) nd rfl (Or.inl rfl) (pe_ifExp (pt_cmpR (opx_neE (hu_of hr)) (pv 2) (pe_lst pa_nil) (nomark _)) (pe_methC0 (pv 4) (W.cls 20 rfl) (W.meth 39 rfl) (ok_Tree_first W) (hr.mono (by decide)) (passes_call (takes_of rfl rfl rfl rfl) (fun _ _ _ _ h => h))) pe_non))
    (pss_cons (ps_while (passes_of rfl) (pt_cmpRC op_notN1 (pv 6) pe_non (nomark _)) (pss_cons (ps_expr (pe_bm PySem.F.plainAttrs_list PySem.F.slot_list_append PySem.F.type_list_append mt_append (pv 5) (pa_cons (pe_ix ix_list (pe_fl (pv 4) rfl) (pv 6) (fun _ _ => rfl)) pa_nil)))
    (pss_cons (ps_augL (pv 3) (pv 6) pe_int)
    (pss_cons (ps_set (i := 7) nd rfl (Or.inl rfl) (pe_ix ix_list (pv 2) (pv 6) (fun _ _ => rfl)))
    (pss_cons (ps_expr (pe_methC (pv 4) (W.cls 20 rfl) (W.meth 40 rfl) (ok_Tree_turn W) (hr.mono (by decide)) (passes_call (takes_of rfl rfl rfl rfl) (fun _ _ _ _ h => h)) (pa_cons (pv 6) (pa_cons (pe_ifExp (pt_cmpR op_lt (pe_ix ix_list (pv 3) (pv 6) (fun _ _ => rfl)) (pe_callB1 call_len_seq (by rfl) (W.free 1 rfl) (by decide +kernel) (pv 7)) (nomark _)) (pe_ix ix_list (pv 7) (pe_ix ix_list (pv 3) (pv 6) (fun _ _ => rfl)) (fun _ _ => rfl)) pe_non) pa_nil))))
    (pss_one (ps_set (i := 6) nd rfl (Or.inl rfl) (pe_methC0 (pv 4) (W.cls 20 rfl) (W.meth 39 rfl) (ok_Tree_first W) (hr.mono (by decide)) (passes_call (takes_of rfl rfl rfl rfl) (fun _ _ _ _ h => h))))))))))
    (pss_one (ps_ret (pe_tup (pa_cons (pv 5) (pa_cons (pe_fl (pv 4) rfl) pa_nil)))))))))))))
theorem sc_law_bad : FnScope N_law_bad P_law_bad (defScope s_law_bad) := ⟨rfl, rfl, rfl, by decide +kernel, rfl, by decide +kernel, by decide +kernel⟩
theorem ok_law_bad (W : Wd K mg base) : Can P w K mg base 2 ("_law_bad", none) P_law_bad (sp_law_bad K) := by
  obtain ⟨fd, F⟩ := W.c.def_ 25 (d := d_law_bad) rfl
  refine can_of F (F.bindsN fun _ _ _ _ _ _ us hl => match us, hl with | [_, _, _], _ => rfl) sc_law_bad (fun vs H Q E h => by unfold sp_law_bad at h; match vs, h with | [_, _, _], _ => rfl) (t_law_bad K) (fun cdv A outer s H E hr => ?_) (pure_law_bad)
  have nd := sc_law_bad.nd
  exact (pss_cons (ps_set (i := 3) nd rfl (Or.inl rfl) (pe_callC (ok_law_take W) (hr.mono (by decide)) rfl (W.glo 3 rfl) (passes_call (takes_of rfl rfl rfl rfl) (fun _ _ _ _ h => h)) (pa_cons (pv 0) (pa_cons (pe_callB1 call_len_seq (by rfl) (W.free 1 rfl) (by decide +kernel) (pv 2)) pa_nil))))
    (pss_cons (ps_set (i := 4) nd rfl (Or.inl rfl) (pe_ix ix_list (pv 2) (pv 3) (fun _ _ => rfl)))
    (pss_cons (ps_set (i := 5) nd rfl (Or.inl rfl) (pe_lst (pa_cons (pe_op op_cat (pe_lst (pa_cons (pe_tup (pa_consC (pe_unN pe_int) (pa_cons (pe_ixC ix_tup (pe_ixC ix_list (pv 4) pe_int (fun _ _ => rfl)) pe_int (fun _ _ => rfl)) pa_nil))) pa_nil)) (pv 4)) (pa_cons (pe_op op_cat (pv 4) (pe_slice sl_list (pv 4) (po_some (pe_unN pe_int)) po_none)) (pa_cons (pe_op op_cat (pe_lst (pa_cons (pe_tup (pa_consC pe_int (pa_cons (pe_tup pa_nil) pa_nil))) pa_nil)) (pv 4)) pa_nil)))))
    (pss_cons (ps_expr (pe_bm PySem.F.plainAttrs_list PySem.F.slot_list_append PySem.F.type_list_append mt_append (pv 5) (pa_cons (pe_op op_cat (pv 4) (pe_lst (pa_cons (pe_tup (pa_cons (pe_opC op_pow pe_int pe_int) (pa_cons (pe_op op_catA (pe_ixC ix_tup (pe_ixC ix_list (pv 4) (pe_unN pe_int) (fun _ _ => rfl)) pe_int (fun _ _ => rfl)) (pe_tup (pa_consC pe_int pa_nil))) pa_nil))) pa_nil))) pa_nil)))
    (pss_cons (ps_if (pt_cmpRC op_gt (pe_callB1 call_len_seq (by rfl) (W.free 1 rfl) (by decide +kernel) (pv 4)) pe_int (nomark _)) (pss_cons (ps_set (i := 6) nd rfl (Or.inl rfl) (pe_opD op_add pe_int (pe_callC (ok_law_take W) (hr.mono (by decide)) rfl (W.glo 3 rfl) (passes_call (takes_of rfl rfl rfl rfl) (fun _ _ _ _ h => h)) (pa_cons (pv 0) (pa_cons (pe_opC op_sub (pe_callB1 call_len_seq (by rfl) (W.free 1 rfl) (by decide +kernel) (pv 4)) pe_int) pa_nil)))))
    (pss_cons (ps_set (i := 7) nd rfl (Or.inl rfl) (pe_lst (pa_cons (pe_tup (pa_cons (pe_opD op_sub (pe_unN pe_int) (pe_callC (ok_law_take W) (hr.mono (by decide)) rfl (W.glo 3 rfl) (passes_call (takes_of rfl rfl rfl rfl) (fun _ _ _ _ h => h)) (pa_cons (pv 0) (pa_cons (pe_opC op_pow pe_int pe_int) pa_nil)))) (pa_cons (pe_ixC ix_tup (pe_ix ix_list (pv 4) (pv 6) (fun _ _ => rfl)) pe_int (fun _ _ => rfl)) pa_nil))) pa_nil)))
    (pss_cons (ps_set (i := 5) nd rfl (Or.inl rfl) (pe_op op_cat (pv 5) (pe_lst (pa_cons (pe_revL (pv 4)) (pa_cons (pe_op op_cat (pe_op op_cat (pe_slice sl_list (pv 4) po_none (po_some (pv 6))) (pv 7)) (pe_slice sl_list (pv 4) (po_some (pe_opC op_add (pv 6) pe_int)) po_none)) pa_nil)))))
    (pss_one (ps_set (i := 5) nd rfl (Or.inl rfl) (pe_op op_cat (pv 5) (pe_opC op_rep (pe_lst (pa_cons (pe_op op_cat (pe_op op_cat (pe_slice sl_list (pv 4) po_none (po_some (pv 6))) (pe_lst (pa_cons (pe_tup (pa_cons (pe_ixC ix_tup (pe_ix ix_list (pv 4) (pe_callC (ok_law_take W) (hr.mono (by decide)) rfl (W.glo 3 rfl) (passes_call (takes_of rfl rfl rfl rfl) (fun _ _ _ _ h => h)) (pa_cons (pv 0) (pa_cons (pv 6) pa_nil))) (fun _ _ => rfl)) pe_int (fun _ _ => rfl)) (pa_cons (pe_ixC ix_tup (pe_ix ix_list (pv 4) (pv 6) (fun _ _ => rfl)) pe_int (fun _ _ => rfl)) pa_nil))) pa_nil))) (pe_slice sl_list (pv 4) (po_some (pe_opC op_add (pv 6) pe_int)) po_none)) pa_nil)) pe_int))))))) pss_nil)
    (pss_cons (ps_set (i := 8) nd rfl (Or.inl rfl) (pe_callC (ok_law_take W) (hr.mono (by decide)) rfl (W.glo 3 rfl) (passes_call (takes_of rfl rfl rfl rfl) (fun _ _ _ _ h => h)) (pa_cons (pv 0) (pa_cons (pe_callB1 call_len_seq (by rfl) (W.free 1 rfl) (by decide +kernel) (pv 5)) pa_nil))))
    (pss_cons (ps_set (i := 9) nd rfl (Or.inl rfl) (pe_ix ix_list (pe_lst (pa_cons (pe_lst (pa_cons (pe_lst (pa_cons (pe_tup (pa_consC pe_int (pa_cons (pe_tup pa_nil) pa_nil))) pa_nil)) pa_nil)) (pa_cons (pe_op op_rep (pe_lst (pa_cons (pe_lst pa_nil) pa_nil)) (pe_opD op_sub pe_int (pe_callB1 call_len_seq (by rfl) (W.free 1 rfl) (by decide +kernel) (pv 2)))) pa_nil))) (pe_callTy1 call_int1 (by rfl) (W.free 2 rfl) (by decide +kernel) (pe_cmpRC op_eq (pe_callC (ok_law_take W) (hr.mono (by decide)) rfl (W.glo 3 rfl) (passes_call (takes_of rfl rfl rfl rfl) (fun _ _ _ _ h => h)) (pa_cons (pv 0) (pa_consC pe_int pa_nil))) pe_int (nomark _))) (fun _ _ => rfl)))
    (pss_one (ps_ret (pe_tup (pa_cons (pe_op op_cat (pe_op op_cat (pe_op op_cat (pe_slice sl_list (pv 2) po_none (po_some (pv 3))) (pe_lst (pa_cons (pe_ix ix_list (pv 5) (pv 8) (fun _ _ => rfl)) pa_nil))) (pe_slice sl_list (pv 2) (po_some (pe_opC op_add (pv 3) pe_int)) po_none)) (pv 9)) (pa_cons (pv 3) pa_nil))))))))))))
theorem sc_law_alike : FnScope N_law_alike P_law_alike (defScope s_law_alike) := ⟨rfl, rfl, rfl, by decide +kernel, rfl, by decide +kernel, by decide +kernel⟩
theorem okr_law_alike (W : Wd K mg base) : ∀ d, Can P w K mg base (0 + d) ("_law_alike", none) P_law_alike (spr_law_alike K d) := by
  obtain ⟨fd, F⟩ := W.c.def_ 26 (d := d_law_alike) rfl
  refine can_rec (lev := 0) F (F.bindsN fun _ _ _ _ _ _ us hl => match us, hl with | [_, _], _ => rfl) sc_law_alike (len_law_alike K) (no_law_alike K) (t_law_alike K) (fun d ih cdv A outer s H E hr => ?_) (fun d => pure_law_alike d)
  have nd := sc_law_alike.nd
  exact (pss_cons (ps_if (pt_cmpRC op_isN1 (pv 1) pe_non (nomark _)) (pss_one (ps_ret (pe_cmpRC op_isN1 (pv 0) pe_non (nomark _)))) pss_nil)
    (pss_cons (ps_if (pt_val (pe_isi (by rfl) (W.free 22 rfl) (pv 1) (pe_bltn (v := .ty "bool") rfl (W.free 26 rfl) (by decide +kernel) rfl))) (pss_one (ps_ret (pe_and (pe_isi (by rfl) (W.free 22 rfl) (pv 0) (pe_bltn (v := .ty "bool") rfl (W.free 26 rfl) (by decide +kernel) rfl)) (pe_one (pe_cmpR op_eq (pv 0) (pv 1) (nomark _)))))) pss_nil)
    (pss_cons (ps_if (pt_val (pe_isi (by rfl) (W.free 22 rfl) (pv 1) (pe_bltn (v := .ty "int") rfl (W.free 2 rfl) (by decide +kernel) rfl))) (pss_one (ps_ret (pe_and (pe_isi (by rfl) (W.free 22 rfl) (pv 0) (pe_bltn (v := .ty "int") rfl (W.free 2 rfl) (by decide +kernel) rfl)) (pe_and (pe_not (pe_isi (by rfl) (W.free 22 rfl) (pv 0) (pe_bltn (v := .ty "bool") rfl (W.free 26 rfl) (by decide +kernel) rfl))) (pe_one (pe_cmpR op_eq (pv 0) (pv 1) (nomark _))))))) pss_nil)
    (pss_cons (ps_if (pt_val (pe_isi (by rfl) (W.free 22 rfl) (pv 1) (pe_bltn (v := .ty "str") rfl (W.free 23 rfl) (by decide +kernel) rfl))) (pss_one (ps_ret (pe_and (pe_isi (by rfl) (W.free 22 rfl) (pv 0) (pe_bltn (v := .ty "str") rfl (W.free 23 rfl) (by decide +kernel) rfl)) (pe_one (pe_cmpR op_eq (pv 0) (pv 1) (nomark _)))))) pss_nil)
    (pss_cons (ps_if (PW.pt (pw_or (pt_cmpR op_ne (pe_isi (by rfl) (W.free 22 rfl) (pv 1) (pe_bltn (v := .ty "tuple") rfl (W.free 5 rfl) (by decide +kernel) rfl)) (pe_isi (by rfl) (W.free 22 rfl) (pv 0) (pe_bltn (v := .ty "tuple") rfl (W.free 5 rfl) (by decide +kernel) rfl)) (nomark _)) (pw_or1 (pt_cmpR op_ne (pe_isi (by rfl) (W.free 22 rfl) (pv 1) (pe_bltn (v := .ty "list") rfl (W.free 0 rfl) (by decide +kernel) rfl)) (pe_isi (by rfl) (W.free 22 rfl) (pv 0) (pe_bltn (v := .ty "list") rfl (W.free 0 rfl) (by decide +kernel) rfl)) (nomark _))))) (pss_one (ps_ret pe_bl)) pss_nil)
    (pss_cons (ps_if (pt_cmpR op_ne (pe_callB1 call_len_seq (by rfl) (W.free 1 rfl) (by decide +kernel) (pv 0)) (pe_callB1 call_len_seq (by rfl) (W.free 1 rfl) (by decide +kernel) (pv 1)) (nomark _)) (pss_one (ps_ret pe_bl)) pss_nil)
    (pss_cons (ps_for (passes_of rfl) rfl (pi_range1 (by rfl) (W.free 4 rfl) (pa_cons (pe_callB1 call_len_seq (by rfl) (W.free 1 rfl) (by decide +kernel) (pv 1)) pa_nil)) (pg_name (i := 2) nd rfl (Or.inl rfl)) (pss_one (ps_if (pt_not (pt_val (pe_callC ih (hr.mono (by omega)) rfl (W.glo 41 rfl) (passes_call (takes_of rfl rfl rfl rfl) (fun _ _ _ _ h => h)) (pa_cons (pe_ix ix_seq (pv 0) (pv 2) (fun _ _ => rfl)) (pa_cons (pe_ix ix_seq (pv 1) (pv 2) (fun _ _ => rfl)) pa_nil))))) (pss_one (ps_ret pe_bl)) pss_nil)))
    (pss_one (ps_ret pe_bl)))))))))
theorem ok_law_alike (W : Wd K mg base) : Can P w K mg base 45 ("_law_alike", none) P_law_alike (sp_law_alike K) := okr_law_alike W 45
theorem sc_law_class : FnScope N_law_class P_law_class (defScope s_law_class) := ⟨rfl, rfl, rfl, by decide +kernel, rfl, by decide +kernel, by decide +kernel⟩
theorem warm_law_class (W : Wd K mg base) : WarmFn P w K mg base "_law_class" N_law_class (t_law_class K) := by
  obtain ⟨fd, F⟩ := W.c.def_ 27 (d := d_law_class) rfl
  refine warm_of F (F.bindsN fun _ _ _ _ _ _ us hl => match us, hl with | [_], _ => rfl) sc_law_class (W.glo 42 rfl) (fun D a d oe C hz hf cdv A outer z H => ?_)
  have nd := sc_law_class.nd
  have hp : (a, oe) ∈ [(a, oe)] := List.mem_cons_self
  exact (pss_cons (ps_set (i := 1) nd rfl (Or.inl rfl) (pe_lst (pa_cons (pe_callB (call_isP C hz hf hp) (by rfl) (W.free 22 rfl) (by decide +kernel) (pa_cons (pv 0) (pa_consC (pe_gref rfl (W.glo 43 rfl)) pa_nil))) (pa_cons (pe_callB (call_isP C hz hf hp) (by rfl) (W.free 22 rfl) (by decide +kernel) (pa_cons (pv 0) (pa_consC (pe_gref rfl (W.glo 44 rfl)) pa_nil))) (pa_cons (pe_callB (call_isP C hz hf hp) (by rfl) (W.free 22 rfl) (by decide +kernel) (pa_cons (pv 0) (pa_consC (pe_gref rfl (W.glo 45 rfl)) pa_nil))) (pa_cons (pe_callB (call_isP C hz hf hp) (by rfl) (W.free 22 rfl) (by decide +kernel) (pa_cons (pv 0) (pa_consC (pe_gref rfl (W.glo 33 rfl)) pa_nil))) pa_nil))))))
    (pss_cons (ps_set (i := 1) nd rfl (Or.inl rfl) (pe_op op_cat (pv 1) (pe_lst (pa_cons (pe_callB (call_isP C hz hf hp) (by rfl) (W.free 22 rfl) (by decide +kernel) (pa_cons (pv 0) (pa_consC (pe_gref rfl (W.glo 46 rfl)) pa_nil))) (pa_cons (pe_callB (call_isP C hz hf hp) (by rfl) (W.free 22 rfl) (by decide +kernel) (pa_cons (pv 0) (pa_consC (pe_gref rfl (W.glo 47 rfl)) pa_nil))) (pa_cons (pe_callB (call_isP C hz hf hp) (by rfl) (W.free 22 rfl) (by decide +kernel) (pa_cons (pv 0) (pa_consC (pe_gref rfl (W.glo 48 rfl)) pa_nil))) (pa_cons (pe_callB (call_isP C hz hf hp) (by rfl) (W.free 22 rfl) (by decide +kernel) (pa_cons (pv 0) (pa_consC (pe_gref rfl (W.glo 49 rfl)) pa_nil))) pa_nil)))))))
    (pss_cons (ps_set (i := 1) nd rfl (Or.inl rfl) (pe_op op_cat (pv 1) (pe_lst (pa_cons (pe_callB (call_isP C hz hf hp) (by rfl) (W.free 22 rfl) (by decide +kernel) (pa_cons (pv 0) (pa_consC (pe_gref rfl (W.glo 50 rfl)) pa_nil))) (pa_cons (pe_callB (call_isP C hz hf hp) (by rfl) (W.free 22 rfl) (by decide +kernel) (pa_cons (pv 0) (pa_consC (pe_gref rfl (W.glo 51 rfl)) pa_nil))) (pa_cons (pe_callB (call_isP C hz hf hp) (by rfl) (W.free 22 rfl) (by decide +kernel) (pa_cons (pv 0) (pa_consC (pe_gref rfl (W.glo 52 rfl)) pa_nil))) (pa_cons (pe_callB (call_isP C hz hf hp) (by rfl) (W.free 22 rfl) (by decide +kernel) (pa_cons (pv 0) (pa_consC (pe_gref rfl (W.glo 53 rfl)) pa_nil))) pa_nil)))))))
    (pss_cons (ps_set (i := 1) nd rfl (Or.inl rfl) (pe_op op_cat (pv 1) (pe_lst (pa_cons (pe_callB (call_isP C hz hf hp) (by rfl) (W.free 22 rfl) (by decide +kernel) (pa_cons (pv 0) (pa_consC (pe_gref rfl (W.glo 54 rfl)) pa_nil))) (pa_cons (pe_callB (call_isP C hz hf hp) (by rfl) (W.free 22 rfl) (by decide +kernel) (pa_cons (pv 0) (pa_consC (pe_gref rfl (W.glo 55 rfl)) pa_nil))) (pa_cons (pe_callB (call_isP C hz hf hp) (by rfl) (W.free 22 rfl) (by decide +kernel) (pa_cons (pv 0) (pa_consC (pe_gref rfl (W.glo 56 rfl)) pa_nil))) pa_nil))))))
    (pss_cons (ps_set (i := 2) nd rfl (Or.inl rfl) (pe_lst (pa_consC pe_str (pa_consC pe_str (pa_consC pe_str (pa_consC pe_str (pa_consC pe_str (pa_consC pe_str (pa_consC pe_str (pa_consC pe_str (pa_consC pe_str pa_nil)))))))))))
    (pss_cons (ps_set (i := 2) nd rfl (Or.inl rfl) (pe_op op_cat (pv 2) (pe_lst (pa_consC pe_str (pa_consC pe_str (pa_consC pe_str (pa_consC pe_str (pa_consC pe_str (pa_consC pe_str pa_nil)))))))))
    (pss_one (ps_ret (pe_ifExp (PW.pt (pw_and (pt_cmpRC op_eq (pe_bm PySem.F.plainAttrs_list PySem.F.slot_list_count PySem.F.type_list_count mt_countF (pv 1) (pa_consC pe_bl pa_nil)) pe_int (nomark _)) (pw_and1 (pt_val (pe_callB (call_isP C hz hf hp) (by rfl) (W.free 22 rfl) (by decide +kernel) (pa_cons (pv 0) (pa_consC (pe_bltn (v := .ty "ValueError") rfl (W.free 57 rfl) (by decide +kernel) rfl) pa_nil))))))) (pe_ix ix_list (pv 2) (pe_bm PySem.F.plainAttrs_list PySem.F.slot_list_index PySem.F.type_list_index mt_index (pv 1) (pa_consC pe_bl pa_nil)) (fun _ _ => rfl)) pe_str)))))))))
theorem sc_law_told : FnScope N_law_told P_law_told (defScope s_law_told) := ⟨rfl, rfl, rfl, by decide +kernel, rfl, by decide +kernel, by decide +kernel⟩
theorem told_law_told (W : Wd K mg base) : ToldFn P w K mg base "_law_told" := by
  obtain ⟨fd, F⟩ := W.c.def_ 28 (d := d_law_told) rfl
  refine told_of F (F.bindsN fun _ _ _ _ _ _ us hl => match us, hl with | [_], _ => rfl) sc_law_told rfl (Or.inl rfl) (W.glo 58 rfl) (by decide) (by decide) (fun cdv X hP hw hK hm hB hr q => ?_)
  subst hP hw hK hm hB
  have nd := sc_law_told.nd
  refine told_does (y := "_law_work") (n := "_law_e") rfl (W.glo 21 rfl) (by decide) nd rfl rfl (fun _ => rfl) (fun s H a oe cls d pn hz hf => ?_) pure_law_told
  exact (pss_cons (ps_set (i := 2) nd rfl (Or.inl rfl) (pe_warmV (k := 0) (warm_law_class W) (room_suite hr) List.mem_cons_self hz hf rfl (pv 1)))
    (pss_cons (ps_if (pt_cmpRC op_eq (pv 2) pe_str (nomark _)) (pss_one (ps_ret (pe_tup (pa_cons (pv 2) (pa_cons (pe_errF hz hf (pv 1)) pa_nil))))) pss_nil)
    (pss_one (ps_ret (pe_tup (pa_cons (pv 2) (pa_cons (pe_ifExp (pt_cmpR op_in_seq (pv 2) (pe_tup (pa_consC pe_str (pa_consC pe_str pa_nil))) (by rfl)) (pe_errF hz hf (pv 1)) pe_int) pa_nil)))))))
theorem sc_law_all : FnScope N_law_all P_law_all (defScope s_law_all) := ⟨rfl, rfl, rfl, by decide +kernel, rfl, by decide +kernel, by decide +kernel⟩
theorem all_law_all (W : Wd K mg base) : AllFn P w K mg base "_law_all" "_law_told" N_law_all (t_law_all K) 45 := by
  obtain ⟨fd, F⟩ := W.c.def_ 29 (d := d_law_all) rfl
  refine all_of F (F.bindsN fun _ _ _ _ _ _ us hl => match us, hl with | [_, _], _ => rfl) sc_law_all (W.glo 59 rfl) (fun cdv X hP hw hK hm hB s H hr LS tt hT => ?_)
  subst hP hw hK hm hB
  have nd := sc_law_all.nd
  exact (pss_one (ps_ret (pe_cmpR (opx_eqE (hu_of hr)) (pe_lcU (own := [("_law_work", 2)]) rfl nd (pi_list (pv 0)) (blkOk_by (own := [("_law_work", 2)]) (N := N_law_all) (sc := defScope s_law_all) (by decide +kernel)) (fun _ _ _ _ _ => (pg_name (i := 2) nd rfl (Or.inl rfl))) (fun _ _ _ _ _ bk => (pts_one (pt_not (pt_val (pe_callC (ok_law_alike W) (hr.mono (by decide)) rfl (W.glo 41 rfl) passL (pa_cons (hT _ _ _ _ _ _ 2 _ _ _ _ bk rfl rfl (by first | exact Or.inl rfl | exact Or.inr (Or.inl rfl) | exact Or.inr (Or.inr rfl)) (by decide) (by decide) (by decide)) (pa_cons (pv 1) pa_nil))))))) (fun _ _ _ _ _ bk => (pv 2))) (pe_lst pa_nil) (nomark _))))
theorem sc_law : FnScope N_law P_law (defScope s_law) := ⟨rfl, rfl, rfl, by decide +kernel, rfl, by decide +kernel, by decide +kernel⟩
theorem fn_law (W : Wd K mg base) {fd : FuncData} (F : FunD K d_law.name d_law.qual d_law.params d_law.body d_law.scope [] [] (He.fAd K d_law.at_) fd) : FnOk P w K mg base (L2.CX P w) 47 (He.fAd K d_law.at_) fd P_law (sp_law K) := by
  refine fn_ofM F sc_law (fun vs H Q E h => by unfold sp_law at h; match vs, h with | [_], _ => rfl) (t_law K) (fun A outer s H E hr => ?_) (pure_law (W.err 0 rfl) (W.em 2 rfl))
  have nd := sc_law.nd
  exact ⟨[_, _, _], (pss_cons (ps_set (i := 1) nd rfl (Or.inl rfl) (pe_callC (ok_law_begun W) (hr.mono (by decide)) rfl (W.glo 60 rfl) (passes_call (takes_of rfl rfl rfl rfl) (fun _ _ _ _ h => h)) (pa_cons (pv 0) pa_nil)))
    (pss_cons (ps_for (passes_of rfl) rfl (pi_range1 (by rfl) (W.free 4 rfl) (pa_consC pe_int pa_nil)) (pg_name (i := 2) nd rfl (Or.inl rfl)) (pss_cons (ps_set (i := 3) nd rfl (Or.inr rfl) (pe_callC (ok_law_kinds W) (hr.mono (by decide)) rfl (W.glo 61 rfl) (passes_call (takes_of rfl rfl rfl rfl) (fun _ _ _ _ h => h)) (pa_cons (pv 1) pa_nil)))
    (pss_cons (ps_set (i := 4) nd rfl (Or.inr rfl) (pe_callC (ok_law_order W) (hr.mono (by decide)) rfl (W.glo 62 rfl) (passes_call (takes_of rfl rfl rfl rfl) (fun _ _ _ _ h => h)) (pa_cons (pv 1) (pa_cons (pv 3) pa_nil))))
    (pss_cons (ps_set (i := 5) nd rfl (Or.inl rfl) (pe_callC (ok_law_rows W) (hr.mono (by decide)) rfl (W.glo 63 rfl) (passes_call (takes_of rfl rfl rfl rfl) (fun _ _ _ _ h => h)) (pa_cons (pv 1) (pa_cons (pv 3) (pa_cons (pe_ix ix_list (pe_lst (pa_consC pe_int (pa_consC pe_int (pa_consC pe_int pa_nil)))) (pe_callC (ok_law_take W) (hr.mono (by decide)) rfl (W.glo 3 rfl) (passes_call (takes_of rfl rfl rfl rfl) (fun _ _ _ _ h => h)) (pa_cons (pv 1) (pa_consC pe_int pa_nil))) (fun _ _ => rfl)) pa_nil)))))
    (pss_cons (ps_set (i := 6) nd rfl (Or.inr rfl) (pe_callC (ok_law_parts W) (hr.mono (by decide)) rfl (W.glo 64 rfl) (passes_call (takes_of rfl rfl rfl rfl) (fun _ _ _ _ h => h)) (pa_cons (pv 1) (pa_cons (pv 4) (pa_cons (pv 5) (pa_cons (pe_ix ix_list (pe_lst (pa_consC pe_int (pa_consC pe_int (pa_consC pe_int pa_nil)))) (pe_callC (ok_law_take W) (hr.mono (by decide)) rfl (W.glo 3 rfl) (passes_call (takes_of rfl rfl rfl rfl) (fun _ _ _ _ h => h)) (pa_cons (pv 1) (pa_consC pe_int pa_nil))) (fun _ _ => rfl)) pa_nil))))))
    (pss_cons (ps_set (i := 7) nd rfl (Or.inl rfl) (pe_lst pa_nil))
    (pss_cons (ps_for (passes_of rfl) rfl (pi_list (pv 6)) (pg_name (i := 8) nd rfl (Or.inl rfl)) (pss_one (ps_expr (pe_bm PySem.F.plainAttrs_list PySem.F.slot_list_extend PySem.F.type_list_extend mt_extend (pv 7) (pa_cons (pv 8) pa_nil)))))
    (pss_cons (ps_set (i := 9) nd rfl (Or.inl rfl) (pe_callC (ok_law_sorted W) (hr.mono (by decide)) rfl (W.glo 10 rfl) (passes_call (takes_of rfl rfl rfl rfl) (fun _ _ _ _ h => h)) (pa_cons (pv 4) (pa_cons (pv 7) pa_nil))))
    (pss_cons (ps_set (i := 10) nd rfl (Or.inl rfl) (pe_ixC ix_list (pe_lc (own := [("_law_k", 21)]) rfl nd (pi_range1 (by rfl) (W.free 4 rfl) (pa_consC pe_int pa_nil)) (blkOk_by (own := [("_law_k", 21)]) (N := N_law) (sc := defScope s_law) (by decide +kernel)) (fun _ _ _ _ _ => (pg_name (i := 21) nd rfl (Or.inl rfl))) (fun _ _ _ _ _ => (pts_one (pt_cmpR op_ge (pe_ix ix_list (pe_lst (pa_consC pe_int (pa_consC pe_int (pa_consC pe_int (pa_consC pe_int (pa_consC pe_int (pa_consC pe_int (pa_consC pe_int (pa_consC pe_int pa_nil))))))))) (pv 21) (fun _ _ => rfl)) (pe_callB1 call_len_seq (by rfl) (W.free 1 rfl) (by decide +kernel) (pv 6)) (nomark _)))) (fun _ _ _ _ _ => (pv 21))) pe_int (fun _ _ => rfl)))
    (pss_cons (ps_setLc (i := 11) (own := [("_law_run", 8)]) rfl nd rfl rfl (sw_true rfl rfl rfl (by decide +kernel)) (pi_list (pv 6)) (blkOk_by (own := [("_law_run", 8)]) (N := N_law) (sc := defScope s_law) (by decide +kernel)) (fun _ _ _ _ _ => (pg_name (i := 8) nd rfl (Or.inl rfl))) (fun _ _ _ _ _ => pts_nil) (fun _ _ _ _ _ => (pe_callTy1 call_list_of (by rfl) (W.free 0 rfl) (by decide +kernel) (pv 8))))
    (pss_cons (ps_for (passes_of rfl) rfl (pi_range1 (by rfl) (W.free 4 rfl) (pa_consC pe_int pa_nil)) (pg_name (i := 12) nd rfl (Or.inl rfl)) (pss_cons (ps_asg (pe_callC (ok_mergedX W) (hr.mono (by decide)) rfl (W.glo 65 rfl) (passes_call (takes_of rfl rfl rfl rfl) (fun _ _ _ _ h => h)) (pa_cons (pv 3) (pa_cons (pv 4) (pa_cons (pv 11) pa_nil)))) (pg_tup rfl (pgs_cons (pg_name (i := 13) nd rfl (Or.inl rfl)) (pgs_cons (pg_name (i := 14) nd rfl (Or.inl rfl)) pgs_nil))))
    (pss_cons (ps_if (PW.pt (pw_or (pt_not (pt_val (pe_callC (ok_law_alike W) (hr.mono (by decide)) rfl (W.glo 41 rfl) (passes_call (takes_of rfl rfl rfl rfl) (fun _ _ _ _ h => h)) (pa_cons (pv 13) (pa_cons (pv 9) pa_nil))))) (pw_or1 (pt_cmpR (op_neD (hu64 hr)) (pv 11) (pv 6) (nomark _))))) (pss_one (ps_ret pe_bl)) pss_nil)
    (pss_cons (ps_set (i := 15) nd rfl (Or.inl rfl) (pe_opC op_sub (pe_callB1 call_len_seq (by rfl) (W.free 1 rfl) (by decide +kernel) (pe_lc (own := [("_law_run", 8)]) rfl nd (pi_list (pv 6)) (blkOk_by (own := [("_law_run", 8)]) (N := N_law) (sc := defScope s_law) (by decide +kernel)) (fun _ _ _ _ _ => (pg_name (i := 8) nd rfl (Or.inl rfl))) (fun _ _ _ _ _ => (pts_one (pt_cmpR (opx_neE (hu_of hr)) (pv 8) (pe_lst pa_nil) (nomark _)))) (fun _ _ _ _ _ => (pv 8)))) pe_int))
    (pss_cons (ps_if (PW.pt (pw_or (pt_not (pt_val (pe_callC (ok_law_alike W) (hr.mono (by decide)) rfl (W.glo 41 rfl) (passes_call (takes_of rfl rfl rfl rfl) (fun _ _ _ _ h => h)) (pa_cons (pv 14) (pa_cons (pe_callTy1 call_int1 (by rfl) (W.free 2 rfl) (by decide +kernel) (pv 14)) pa_nil))))) (pw_or1 (pt_not (pt_chain op_le op_le (pv 15) (pv 14) (pe_op op_add (pe_opC op_sub (pe_callB1 call_len_seq (by rfl) (W.free 1 rfl) (by decide +kernel) (pv 6)) pe_int) (pe_op op_mul (pv 10) (pe_callB1 call_len_seq (by rfl) (W.free 1 rfl) (by decide +kernel) (pv 9))))))))) (pss_one (ps_ret pe_bl)) pss_nil)
    (pss_one (ps_expr (pe_bm PySem.F.plainAttrs_list PySem.F.slot_list_append PySem.F.type_list_append mt_append (pv 13) (pa_cons (pe_tup pa_nil) pa_nil)))))))))
    (pss_cons (ps_setLc (i := 16) (own := [("_law_run", 8)]) rfl nd rfl rfl (sw_true rfl rfl rfl (by decide +kernel)) (pi_list (pv 6)) (blkOk_by (own := [("_law_run", 8)]) (N := N_law) (sc := defScope s_law) (by decide +kernel)) (fun _ _ _ _ _ => (pg_name (i := 8) nd rfl (Or.inl rfl))) (fun _ _ _ _ _ => (pts_one (pt_cmpR (opx_neE (hu_of hr)) (pv 8) (pe_lst pa_nil) (nomark _)))) (fun _ _ _ _ _ => (pv 8)))
    (pss_cons (ps_if (pt_cmpR (opx_neE (hu_of hr)) (pv 16) (pe_lst pa_nil) (nomark _)) (pss_cons (ps_asg (pe_callC (ok_law_bad W) (hr.mono (by decide)) rfl (W.glo 66 rfl) (passes_call (takes_of rfl rfl rfl rfl) (fun _ _ _ _ h => h)) (pa_cons (pv 1) (pa_cons (pv 4) (pa_cons (pe_slice sl_list (pv 16) po_none (po_some pe_int)) pa_nil)))) (pg_tup rfl (pgs_cons (pg_name (i := 17) nd rfl (Or.inr rfl)) (pgs_cons (pg_name (i := 18) nd rfl (Or.inl rfl)) pgs_nil))))
    (pss_cons (ps_if (pt_not (pt_val (pe_allC (k := 5) (all_law_all W) (told_law_told W) rfl (hr.mono (by decide)) (hr.mono (by decide)) (pa_cons (pe_lst (pa_cons (pe_lamM (T := Lms_k05) (p0 := ("law", none)) (j := 0) W.tab (List.mem_cons_self) rfl rfl (by show lamSB (defScope s_law) _ = true; decide +kernel) rfl) pa_nil)) (pa_cons (pe_tup (pa_consC pe_str (pa_cons (pv 18) pa_nil))) pa_nil)) (lams_put (j := 0) rfl rfl rfl (by show lamSB (defScope s_law) _ = true; decide +kernel) (fun _ _ _ => rfl) (fun _ _ _ _ E _ _ hr => (pe_callC (ok_mergedX W) (hr.mono (by decide)) rfl (W.glo 65 rfl) (passes_call (takes_of rfl rfl rfl rfl) (fun _ _ _ _ h => h)) (pa_cons (pv 3) (pa_cons (pv 4) (pa_cons (pv 17) pa_nil))))) lams_nil)))) (pss_one (ps_ret pe_bl)) pss_nil)
    (pss_cons (ps_set (i := 19) nd rfl (Or.inr rfl) (pe_op op_cat (pv 16) (pe_lst (pa_cons (pe_slice sl_list (pe_ix ix_list (pv 16) (pe_callC (ok_law_take W) (hr.mono (by decide)) rfl (W.glo 3 rfl) (passes_call (takes_of rfl rfl rfl rfl) (fun _ _ _ _ h => h)) (pa_cons (pv 1) (pa_cons (pe_callB1 call_len_seq (by rfl) (W.free 1 rfl) (by decide +kernel) (pv 16)) pa_nil))) (fun _ _ => rfl)) po_none (po_some pe_int)) pa_nil))))
    (pss_cons (ps_set (i := 20) nd rfl (Or.inl rfl) (pe_lst (pa_cons (pe_lamM (T := Lms_k05) (p0 := ("law", none)) (j := 1) W.tab (List.mem_cons_self) rfl rfl (by show lamSB (defScope s_law) _ = true; decide +kernel) rfl) pa_nil)))
    (pss_one (ps_if (PW.pt (pw_and (pt_cmpRC op_lt (pe_callB1 call_len_seq (by rfl) (W.free 1 rfl) (by decide +kernel) (pv 19)) pe_int (nomark _)) (pw_and1 (pt_not (pt_val (pe_allC (k := 5) (all_law_all W) (told_law_told W) rfl (hr.mono (by decide)) (hr.mono (by decide)) (pa_cons (pv 20) (pa_cons (pe_tup (pa_consC pe_str (pa_cons (pe_callB1 call_len_seq (by rfl) (W.free 1 rfl) (by decide +kernel) (pv 16)) pa_nil))) pa_nil)) (lams_put (j := 1) rfl rfl rfl (by show lamSB (defScope s_law) _ = true; decide +kernel) (fun _ _ _ => rfl) (fun _ _ _ _ E _ _ hr => (pe_callC (ok_mergedX W) (hr.mono (by decide)) rfl (W.glo 65 rfl) (passes_call (takes_of rfl rfl rfl rfl) (fun _ _ _ _ h => h)) (pa_cons (pv 3) (pa_cons (pv 4) (pa_cons (pv 19) pa_nil))))) lams_nil))))))) (pss_one (ps_ret pe_bl)) pss_nil)))))) pss_nil)
    (pss_one (ps_if (pt_not (pt_val (pe_allC (k := 5) (all_law_all W) (told_law_told W) rfl (hr.mono (by decide)) (hr.mono (by decide)) (pa_cons (pe_lst (pa_cons (pe_lamM (T := Lms_k05) (p0 := ("law", none)) (j := 2) W.tab (List.mem_cons_self) rfl rfl (by show lamSB (defScope s_law) _ = true; decide +kernel) rfl) pa_nil)) (pa_cons (pe_tup (pa_consC pe_str (pa_consC pe_int pa_nil))) pa_nil)) (lams_put (j := 2) rfl rfl rfl (by show lamSB (defScope s_law) _ = true; decide +kernel) (fun _ _ _ => rfl) (fun _ _ _ _ E _ _ hr => (pe_callC (ok_mergedX W) (hr.mono (by decide)) rfl (W.glo 65 rfl) (passes_call (takes_of rfl rfl rfl rfl) (fun _ _ _ _ h => h)) (pa_cons (pv 3) (pa_cons (pv 4) (pa_cons (pe_opC op_rep (pe_lst (pa_cons (pe_lst pa_nil) pa_nil)) pe_int) pa_nil))))) lams_nil)))) (pss_one (ps_ret pe_bl)) pss_nil)))))))))))))))
    (pss_one (ps_ret (pe_cmpR (op_eqD (hu64 hr)) (pe_callC (ok_mergedX W) (hr.mono (by decide)) rfl (W.glo 65 rfl) (passes_call (takes_of rfl rfl rfl rfl) (fun _ _ _ _ h => h)) (pa_cons (pe_tup (pa_consC pe_str pa_nil)) (pa_cons (pe_lst (pa_cons (pe_tup (pa_consC pe_int (pa_consC pe_str pa_nil))) pa_nil)) (pa_cons (pe_lst pa_nil) pa_nil)))) (pe_tup (pa_cons (pe_lst pa_nil) (pa_consC pe_int pa_nil))) (nomark _))))))⟩
end
end Lw
namespace Lw
open PySem PySem.Spec PyProof.Rows L2 Rs
/-- a promise that holds whatever may be raised: nothing is -/
theorem calm {P : Program} {w : World} {K : PySem.W.Frag} {mg : Str → Option Value} {base : Heap} {k : Nat} {f : Addr} {fd : FuncData} {ps : List Str} {sp : Sp} (F : FnOk P w K mg base (L2.CX P w) k f fd ps sp) (hE : ∀ vs H Q E, sp vs H Q E → sp vs H Q E0) : FnOk P w K mg base CX0 k f fd ps sp :=
  ⟨F.len, fun A outer s H args us vs Q E hr he hb hv hs => codeAny_mono (F.run A outer s H args us vs Q E0 hr he hb hv (hE _ _ _ _ hs)) fun r s' h => by
    cases r with
    | error e =>
      obtain ⟨_, _, _, _, _, _, _, _, _, _, _, _, hf⟩ := h
      exact hf.elim
    | ok fl => cases fl <;> exact h⟩
end Lw
open PySem PySem.W PySem.Calls PyProof.Rows
theorem PySem.Challenge.cw_runsorts_k05_merges_holds : PySem.Challenge.rw_runsorts_k05_merges.Holds := by
  w_on; o_law
  refine HandSHeadRun.head_any (r := OpenLaw.row PySem.Challenge.rw_runsorts_k05_merges) (q := view (OpenLaw.row PySem.Challenge.rw_runsorts_k05_merges).prog [54]) (H := Lw.hk) (ob := Lw.ob) (M := 15000) (loose := Lw.loose) (d := HandSHeadRun.topDef (OpenLaw.row PySem.Challenge.rw_runsorts_k05_merges).prog 54) (kwd := []) Lw.ob_eq
    (by kernel_rfl) (fun s => by kernel_rfl) Lw.run (by kernel_rfl) (by kernel_rfl) (by kernel_rfl) (by rfl) (by first | assumption | decide +kernel) (by decide +kernel) ⟨rfl, rfl, rfl, rfl, rfl, by decide +kernel⟩ ?hw ?hc
  case hw => w_witness2
  case hc =>
    refine LamX.walk_ofTsE (l := PySem.Challenge.rw_runsorts_k05_merges) (n := 63) (k := 47) (x := "_law_script") (CX := fun _ => L2.CX0) rfl (by decide) (by kernel_rfl) ⟨rfl, by decide, by decide⟩ ?F (fun _ _ _ _ _ z => z)
    intro w mg fa h Y G hmg0
    obtain ⟨K, KX, c⟩ := Y
    have hmg : mg ("law" : PySem.Str) = some (.ref fa) := by
      have e : (HandSHeadRun.topDef (OpenLaw.row PySem.Challenge.rw_runsorts_k05_merges).prog 54).name = ("law" : PySem.Str) := by kernel_rfl
      rw [← e]
      exact hmg0
    obtain ⟨fd, F⟩ := c.m.def_ 30 (d := Lw.d_law) rfl
    have e := hmg.symm.trans (He.glo_ok KX G (Lw.says_fact c.m 67 (f := .glo "law") rfl))
    cases e
    have b := L2.FunD.bindsA (ps := ["_law_script"]) F fun _ _ _ _ _ _ us hl => match us, hl with | [_], _ => rfl
    refine ⟨K, KX, fd, Lw.tf.map fun p => He.cT K p, Rs.sp_law K, ?_, ?_, ?_, fun s v => b s [v] rfl, fun H a ns hl _ hT hS => ⟨a, ns, rfl, hS, hl, ?_, fun _ => rfl⟩, fun base _ _ TB => Lw.calm (Lw.fn_law ⟨c.m, ⟨h, KX, G⟩, ⟨?_, Lw.nodup_tabs c.m⟩⟩ F) fun vs H Q E h => h⟩
    · intro p hp
      obtain ⟨q, hq, rfl⟩ := List.mem_map.mp hp
      exact c.empty q hq
    · intro p hp
      obtain ⟨q, hq, rfl⟩ := List.mem_map.mp hp
      exact c.out q hq
    · intro p hp
      obtain ⟨q, hq, rfl⟩ := List.mem_map.mp hp
      exact PySem.W.codeHd_of_K KX (c.hd q hq)
    · exact Lw.tabs_start H fun q hq => hT _ (List.mem_map.mpr ⟨q, hq, rfl⟩)
    · intro p hp
      exact TB _ (List.mem_map.mpr ⟨p.1, Lw.lms_tf p hp, rfl⟩)
