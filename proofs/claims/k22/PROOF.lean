import PyProof.Rows.All
import Wide.All
import OpenK.AllK
import Wide.FinOn
import KE.KStateDown
import Lean
import HandS.ForMost
import HandS.ForExc
import HandS.Flow
import HandS.Wide
import HandS.TupAny
import HandS.Zip
import HandS.IsInst
import HandS.Steps
import HandS.More
import HandS.Conv
import HandS.Deep
import HandS.Walk
import HandS.Defaults
import HandS.Head0
import HandS.Head1
import HandS.Head2
import HandS.HeadEnd
import HandS.HeadHook1
import HandS.HeadHook2
import HandS.Exc
import HandS.ExcOwn
import HandS.TryOnly
import HandS.Style
import HandS.Lambda
import HandS.HotCalls
import HandS.ExcIs
import HandS.ExcField
import HandS.HeadHook3
import HandS.HeadHook4
import HandS.EndTab
import HandS.HeadWalk
import HandS.ExcInit
import HandS.WordsExc
import HandS.Codes
import KE.LtData
import HandS.SortRule
import HandS.SortInts
import HandS.Ends
import HandS.Words
import PySem.Challenge.RW_runsorts_k22_texts_refused
set_option Elab.async false
set_option linter.all false
set_option maxRecDepth 100000
set_option maxHeartbeats 4000000
/-! the head: facts by names, told over the objects that the module's names reach -/
namespace Hx
open PySem PySem.Spec PyProof.Rows L2
def obj1 (g : Addr → Option Obj) (v : Value) : List Addr := match v with
  | .ref b => (match g b with
    | some ⟨_, _, .func fd, _⟩ => b :: (He.refV fd.code ++ He.refV fd.defaults)
    | _ => [b])
  | _ => []
def obj2 (g : Addr → Option Obj) (v : Value) : List Addr := match v with
  | .ref b => (match g b with
    | some ⟨_, _, .func fd, _⟩ => b :: (He.refV fd.code ++ He.refV fd.defaults)
    | some ⟨_, _, .cls cd, _⟩ => b :: cd.ns :: (match g cd.ns with
      | some ⟨_, _, .dict es _, _⟩ => es.toList.flatMap fun e => obj1 g e.val
      | _ => [])
    | _ => [b])
  | _ => []
def asX (g : Addr → Option Obj) : List Addr := cStatics :: mainGlobals :: (match g mainGlobals with
  | some ⟨_, _, .dict es _, _⟩ => es.toList.flatMap fun e => obj2 g e.val
  | _ => [])
abbrev Fs : Type := List (PySem.W.Frag → Bool)
def obsM (fs : Fs) (fn : List He.DefD) (K : PySem.W.Frag) : He.AlD := ((fs.all fun f => f K) && fn.all fun d => d.ok K, fn.map fun d => He.fnW K d.at_)
def SaysM (fs : Fs) (fn : List He.DefD) (K : PySem.W.Frag) : Prop := obsM fs fn K = He.valD fn
def obsMG (fs : Fs) (fn : List He.DefD) (g : Addr → Option Obj) : He.AlD := obsM fs fn (He.frG g (asX g))
def hookM (fs : Fs) (fn : List He.DefD) : PySem.W.Hook where
  α := He.AlD
  obs := fun s => obsMG fs fn s.heap.get?
  val := fun _ => He.valD fn
  says := fun _ h => ∃ K : PySem.W.Frag, K.In h ∧ SaysM fs fn K
  of := fun _ _ e => ⟨_, He.frG_in, e⟩
  keeps := fun _ _ _ ⟨K, hK, c⟩ k => ⟨K, PySem.W.Frag.In.keeps hK k, c⟩
theorem obsMG_eq {fs : Fs} {fn : List He.DefD} {g : Addr → Option Obj} {s : Shared} (h : ∀ a, g a = s.heap.get? a) : obsMG fs fn g = (hookM fs fn).obs s := by
  have e : g = s.heap.get? := funext h
  rw [e] <;> rfl
section
variable {fs : Fs} {fn : List He.DefD} {K : PySem.W.Frag}
theorem SaysM.fact (c : SaysM fs fn K) (i : Nat) {f : PySem.W.Frag → Bool} (h : fs[i]? = some f := by rfl) : f K = true := by
  have c1 := (He.ba (show ((fs.all fun f => f K) && fn.all fun d => d.ok K) = true from congrArg (fun z : He.AlD => z.1) c)).1
  exact List.all_eq_true.mp c1 f (List.mem_of_getElem? h)
theorem SaysM.def_ (c : SaysM fs fn K) (i : Nat) {d : He.DefD} (h : fn[i]? = some d := by rfl) : ∃ fd, FunD K d.name d.qual d.params d.body d.scope (d.dvs K) (d.kws K) (He.fAd K d.at_) fd := by
  have c2 := (He.ba (show ((fs.all fun f => f K) && fn.all fun d => d.ok K) = true from congrArg (fun z : He.AlD => z.1) c)).2
  have e : fn.map (fun d => He.fnW K d.at_) = fn.map He.DefD.val := congrArg (fun z : He.AlD => z.2) c
  have e2 : (fn.map fun d => He.fnW K d.at_)[i]? = (fn.map He.DefD.val)[i]? := by rw [e]
  rw [List.getElem?_map, List.getElem?_map, h] at e2
  exact He.DefD.funD (Option.some.inj e2) (List.all_eq_true.mp c2 d (List.mem_of_getElem? h))
end
end Hx

/-! the same, the tables of the defs that make lambdas told beside -/
namespace Hx
open PySem PySem.Spec PyProof.Rows L2
structure SaysMT (fs : Fs) (fn : List He.DefD) (tf : List He.Defn) (h : Heap) (K : PySem.W.Frag) : Prop where
  m : SaysM fs fn K
  hd : ∀ p ∈ tf, PySem.W.codeHdIn K (He.cT K p).1 (He.cT K p).2 = true
  out : ∀ p ∈ tf, K.lookup (He.cT K p).2 = none
  empty : ∀ p ∈ tf, h.get? (He.cT K p).2 = some { cls := .none, data := .fields #[] }
def obsMT (fs : Fs) (fn : List He.DefD) (tf : List He.Defn) (g : Addr → Option Obj) : He.AlD × Bool := (obsM fs fn (He.frT g (asX g)), He.tabsB g tf (He.frT g (asX g)))
theorem saysMT_of {fs : Fs} {fn : List He.DefD} {tf : List He.Defn} {h : Heap} (e : obsMT fs fn tf h.get? = (He.valD fn, true)) : SaysMT fs fn tf h (He.frT h.get? (asX h.get?)) := by
  have e1 : obsM fs fn (He.frT h.get? (asX h.get?)) = He.valD fn := congrArg (fun z : He.AlD × Bool => z.1) e
  have e2 : He.tabsB h.get? tf (He.frT h.get? (asX h.get?)) = true := congrArg (fun z : He.AlD × Bool => z.2) e
  have at_ : ∀ p ∈ tf, PySem.W.codeHdIn (He.frT h.get? (asX h.get?)) (He.cT (He.frT h.get? (asX h.get?)) p).1 (He.cT (He.frT h.get? (asX h.get?)) p).2 = true ∧ ∃ o, h.get? (He.cT (He.frT h.get? (asX h.get?)) p).2 = some o ∧ He.emptyTab o = true := fun p hp => by
    obtain ⟨g1, g2⟩ := He.ba (List.all_eq_true.mp e2 p hp)
    refine ⟨g1, ?_⟩
    revert g2
    cases h.get? (He.cT (He.frT h.get? (asX h.get?)) p).2 with
    | none => exact fun z => (nomatch z)
    | some o => exact fun z => ⟨o, rfl, z⟩
  exact ⟨e1, fun p hp => (at_ p hp).1, fun p hp => (at_ p hp).2.elim fun o z => He.frT_none z.1 z.2, fun p hp => (at_ p hp).2.elim fun o z => by rw [z.1, He.emptyTab_eq z.2]⟩
def hookMT (fs : Fs) (fn : List He.DefD) (tf : List He.Defn) : PySem.W.Hook where
  α := He.AlD × Bool
  obs := fun s => obsMT fs fn tf s.heap.get?
  val := fun _ => (He.valD fn, true)
  says := fun _ h => ∃ K : PySem.W.Frag, K.In h ∧ SaysMT fs fn tf h K
  of := fun _ _ e => ⟨_, He.frT_in, saysMT_of e⟩
  keeps := fun _ _ _ ⟨K, hK, c⟩ k => ⟨K, PySem.W.Frag.In.keeps hK k, ⟨c.m, c.hd, c.out, fun p hp => k _ _ (c.empty p hp)⟩⟩
theorem obsMT_eq {fs : Fs} {fn : List He.DefD} {tf : List He.Defn} {g : Addr → Option Obj} {s : Shared} (h : ∀ a, g a = s.heap.get? a) : obsMT fs fn tf g = (hookMT fs fn tf).obs s := by
  have e : g = s.heap.get? := funext h
  rw [e] <;> rfl
end Hx

namespace Rs
open PySem PySem.Spec PyProof.Rows L2
def errNames : List Str := ["BadKinds", "BadOrder", "BadRows", "BadRuns", "BadRoom", "BadLengths", "BadPlan", "BadPaper", "BadCount", "BadBlock", "Stopped", "Shut", "NotYet", "Empty", "BadText"]
def excCB (K : PySem.W.Frag) (D : Addr) : Bool :=
  decide (PySem.W.findIn K (.ref D) "__getattribute__" = some (some (.builtin "BaseException.__getattribute__"))) && (decide (PySem.W.findIn K (.ref D) "__getattr__" = some none) && (decide (PySem.W.subIn K (.ref D) (.type "BaseException") = some true) && (PySem.W.hasDictIn K D &&
    (decide (PySem.W.findIn K (.ref D) "__class__" = some (some (.builtin "object.__class__"))) && (decide (PySem.W.specialIn K (.builtin "object.__class__") "__get__" = some (some (.builtin "getset_descriptor.__get__"))) && (decide (PySem.W.takesIn K (.builtin "object.__class__") = some true) && decide (PySem.W.mroIn K D (.type "object") = some true)))))))
def errB (x : Str) (K : PySem.W.Frag) : Bool :=
  decide (x ∈ errNames) && (excCB K (He.ga K x) && ((errNames.all fun y => decide (PySem.W.kitOne K (.ref (He.ga K x)) (.ref (He.ga K y)) = some (decide (x = y)))) && (decide (PySem.W.kitOne K (.ref (He.ga K x)) (.type "ValueError") = some true) && decide (PySem.W.exmOne K (.ref (He.ga K x)) (.ref (He.ga K "SortError")) = some true))))
def overB (K : PySem.W.Frag) (C : Addr) : Bool := match K.lookup C with
  | some ⟨.type "type", _, .cls cd, sl⟩ => (match cd.mro, sl.toList with
    | .ref C' :: bm, [_, _, _, _, some (.builtin n), _] => C' == C && (n == "ValueError.__new__" && (!cd.hasDel && (cd.hasDict && PySem.HandSPX.refsVE bm)))
    | _, _ => false)
  | _ => false
def emB (x f : Str) (K : PySem.W.Frag) : Bool :=
  overB K (He.ga K x) && (decide (PySem.W.findIn K (.ref (He.ga K x)) "__setattr__" = some (some (.builtin "object.__setattr__"))) && (decide (PySem.W.subIn K (.ref (He.ga K x)) (.type "BaseException") = some true) && (decide (PySem.W.typeIn K (.ref (He.ga K x)) = some (.type "type")) && (PySem.W.keepIn K (.ref (He.ga K x)) &&
    (decide (PySem.W.findIn K (.ref (He.ga K x)) f = some none) && (decide (PySem.W.findIn K (.ref (He.ga K x)) "__init__" = some (some (.ref (He.fAd K (x, some "__init__"))))) && (decide (PySem.W.typeIn K (.ref (He.fAd K (x, some "__init__"))) = some (.type "function")) &&
      (decide (PySem.W.specialIn K (.ref (He.ga K "SortError")) "__getattribute__" = some (some (.builtin "type.__getattribute__"))) && (PySem.W.readsIn K (He.ga K "SortError") (.type "type") && (match PySem.W.findCls K (.ref (He.ga K "SortError")) (.type "type") "__init__" with | some (.val (.builtin n)) => n == "ValueError.__init__" | _ => false))))))))))
end Rs
namespace Lw
open PySem PySem.Spec PyProof.Rows L2 Rs LamX
/-! ### the text by places -/
def top (i : Nat) : Stmt := PySem.Challenge.pw_runsorts_k22_texts_refused.main.body.getD i (.Pass ⟨0, 0, 0, 0⟩)
abbrev s_law_begun : Stmt := top 49
def d_law_begun : He.DefD := ⟨("_law_begun", none), "_law_begun", "_law_begun", defArgs s_law_begun, defBody s_law_begun, defScope s_law_begun, [], []⟩
abbrev s_law_take : Stmt := top 50
def d_law_take : He.DefD := ⟨("_law_take", none), "_law_take", "_law_take", defArgs s_law_take, defBody s_law_take, defScope s_law_take, [], []⟩
abbrev s_law_kinds : Stmt := top 55
def d_law_kinds : He.DefD := ⟨("_law_kinds", none), "_law_kinds", "_law_kinds", defArgs s_law_kinds, defBody s_law_kinds, defScope s_law_kinds, [], []⟩
abbrev s_law_order : Stmt := top 56
def d_law_order : He.DefD := ⟨("_law_order", none), "_law_order", "_law_order", defArgs s_law_order, defBody s_law_order, defScope s_law_order, [], []⟩
abbrev s_law_lengths : Stmt := top 62
def d_law_lengths : He.DefD := ⟨("_law_lengths", none), "_law_lengths", "_law_lengths", defArgs s_law_lengths, defBody s_law_lengths, defScope s_law_lengths, [], []⟩
abbrev s_need_kinds : Stmt := top 23
def d_need_kinds : He.DefD := ⟨("need_kinds", none), "need_kinds", "need_kinds", defArgs s_need_kinds, defBody s_need_kinds, defScope s_need_kinds, [], []⟩
abbrev s_is_turnX : Stmt := top 24
def d_is_turnX : He.DefD := ⟨("is_turn", none), "is_turn", "is_turn", defArgs s_is_turnX, defBody s_is_turnX, defScope s_is_turnX, [], []⟩
abbrev s_need_orderX : Stmt := top 25
def d_need_orderX : He.DefD := ⟨("need_order", none), "need_order", "need_order", defArgs s_need_orderX, defBody s_need_orderX, defScope s_need_orderX, [], []⟩
abbrev s_written_order : Stmt := top 41
def d_written_order : He.DefD := ⟨("written_order", none), "written_order", "written_order", defArgs s_written_order, defBody s_written_order, defScope s_written_order, [], []⟩
abbrev s_need_lengths : Stmt := top 31
def d_need_lengths : He.DefD := ⟨("need_lengths", none), "need_lengths", "need_lengths", defArgs s_need_lengths, defBody s_need_lengths, defScope s_need_lengths, [], []⟩
abbrev s_need_ways : Stmt := top 32
def d_need_ways : He.DefD := ⟨("need_ways", none), "need_ways", "need_ways", defArgs s_need_ways, defBody s_need_ways, defScope s_need_ways, [], []⟩
abbrev s_runs_in : Stmt := top 33
def d_runs_in : He.DefD := ⟨("runs_in", none), "runs_in", "runs_in", defArgs s_runs_in, defBody s_runs_in, defScope s_runs_in, [], []⟩
abbrev s_rows_in : Stmt := top 35
def d_rows_in : He.DefD := ⟨("rows_in", none), "rows_in", "rows_in", defArgs s_rows_in, defBody s_rows_in, defScope s_rows_in, [], []⟩
abbrev s_moved : Stmt := top 36
def d_moved : He.DefD := ⟨("moved", none), "moved", "moved", defArgs s_moved, defBody s_moved, defScope s_moved, [], []⟩
abbrev s_are_merges : Stmt := top 34
def d_are_merges : He.DefD := ⟨("are_merges", none), "are_merges", "are_merges", defArgs s_are_merges, defBody s_are_merges, defScope s_are_merges, [], []⟩
abbrev s_costX : Stmt := top 37
def d_costX : He.DefD := ⟨("cost", none), "cost", "cost", defArgs s_costX, defBody s_costX, defScope s_costX, [], []⟩
abbrev s_text_of : Stmt := top 44
def d_text_of : He.DefD := ⟨("text_of", none), "text_of", "text_of", defArgs s_text_of, defBody s_text_of, defScope s_text_of, [], []⟩
abbrev s_written_plan : Stmt := top 45
def d_written_plan : He.DefD := ⟨("written_plan", none), "written_plan", "written_plan", defArgs s_written_plan, defBody s_written_plan, defScope s_written_plan, [], []⟩
abbrev s_law_plan : Stmt := top 63
def d_law_plan : He.DefD := ⟨("_law_plan", none), "_law_plan", "_law_plan", defArgs s_law_plan, defBody s_law_plan, defScope s_law_plan, [], []⟩
abbrev s_law_number : Stmt := top 68
def d_law_number : He.DefD := ⟨("_law_number", none), "_law_number", "_law_number", defArgs s_law_number, defBody s_law_number, defScope s_law_number, [], []⟩
abbrev s_law_order_due : Stmt := top 69
def d_law_order_due : He.DefD := ⟨("_law_order_due", none), "_law_order_due", "_law_order_due", defArgs s_law_order_due, defBody s_law_order_due, defScope s_law_order_due, [], []⟩
abbrev s_law_fits : Stmt := top 67
def d_law_fits : He.DefD := ⟨("_law_fits", none), "_law_fits", "_law_fits", defArgs s_law_fits, defBody s_law_fits, defScope s_law_fits, [], []⟩
abbrev s_law_in : Stmt := top 65
def d_law_in : He.DefD := ⟨("_law_in", none), "_law_in", "_law_in", defArgs s_law_in, defBody s_law_in, defScope s_law_in, [], []⟩
abbrev s_law_plan_due : Stmt := top 70
def d_law_plan_due : He.DefD := ⟨("_law_plan_due", none), "_law_plan_due", "_law_plan_due", defArgs s_law_plan_due, defBody s_law_plan_due, defScope s_law_plan_due, [], []⟩
abbrev s_law_spoilt : Stmt := top 71
def d_law_spoilt : He.DefD := ⟨("_law_spoilt", none), "_law_spoilt", "_law_spoilt", defArgs s_law_spoilt, defBody s_law_spoilt, defScope s_law_spoilt, [], []⟩
abbrev s_law_class : Stmt := top 52
def d_law_class : He.DefD := ⟨("_law_class", none), "_law_class", "_law_class", defArgs s_law_class, defBody s_law_class, defScope s_law_class, [], []⟩
abbrev s_law_told : Stmt := top 53
def d_law_told : He.DefD := ⟨("_law_told", none), "_law_told", "_law_told", defArgs s_law_told, defBody s_law_told, defScope s_law_told, [], []⟩
abbrev s_law_alike : Stmt := top 51
def d_law_alike : He.DefD := ⟨("_law_alike", none), "_law_alike", "_law_alike", defArgs s_law_alike, defBody s_law_alike, defScope s_law_alike, [], []⟩
abbrev s_number_of : Stmt := top 42
def d_number_of : He.DefD := ⟨("number_of", none), "number_of", "number_of", defArgs s_number_of, defBody s_number_of, defScope s_number_of, [], []⟩
abbrev s_BadRuns___init__ : Stmt := inClass (top 5) 0
def d_BadRuns___init__ : He.DefD := ⟨("BadRuns", some "__init__"), "__init__", "BadRuns.__init__", defArgs s_BadRuns___init__, defBody s_BadRuns___init__, defScope s_BadRuns___init__, [], []⟩
abbrev s_BadRows___init__ : Stmt := inClass (top 4) 0
def d_BadRows___init__ : He.DefD := ⟨("BadRows", some "__init__"), "__init__", "BadRows.__init__", defArgs s_BadRows___init__, defBody s_BadRows___init__, defScope s_BadRows___init__, [], []⟩
abbrev s_BadText___init__ : Stmt := inClass (top 16) 0
def d_BadText___init__ : He.DefD := ⟨("BadText", some "__init__"), "__init__", "BadText.__init__", defArgs s_BadText___init__, defBody s_BadText___init__, defScope s_BadText___init__, [], []⟩
abbrev s_read_orderX : Stmt := top 43
def d_read_orderX : He.DefD := ⟨("read_order", none), "read_order", "read_order", defArgs s_read_orderX, defBody s_read_orderX, defScope s_read_orderX, [], []⟩
abbrev s_plan_fromX : Stmt := top 46
def d_plan_fromX : He.DefD := ⟨("plan_from", none), "plan_from", "plan_from", defArgs s_plan_fromX, defBody s_plan_fromX, defScope s_plan_fromX, [], []⟩
abbrev s_read_planX : Stmt := top 47
def d_read_planX : He.DefD := ⟨("read_plan", none), "read_plan", "read_plan", defArgs s_read_planX, defBody s_read_planX, defScope s_read_planX, [], []⟩
abbrev s_law : Stmt := top 72
def d_law : He.DefD := ⟨("law", none), "law", "law", defArgs s_law, defBody s_law, defScope s_law, [], []⟩
def fn : List He.DefD := [d_law_begun, d_law_take, d_law_kinds, d_law_order, d_law_lengths, d_need_kinds, d_is_turnX, d_need_orderX, d_written_order, d_need_lengths, d_need_ways, d_runs_in, d_rows_in, d_moved, d_are_merges, d_costX, d_text_of, d_written_plan, d_law_plan, d_law_number, d_law_order_due, d_law_fits, d_law_in, d_law_plan_due, d_law_spoilt, d_law_class, d_law_told, d_law_alike, d_number_of, d_BadRuns___init__, d_BadRows___init__, d_BadText___init__, d_read_orderX, d_plan_fromX, d_read_planX, d_law]
def fa : List He.Fa := [.free "list",
  .free "len",
  .free "int",
  .glo "_law_take",
  .free "range",
  .free "tuple",
  .int "MOST_COLUMNS" 4,
  .str "NUMBER" "number",
  .str "WORD" "word",
  .str "UP" "up",
  .str "DOWN" "down",
  .glo "is_turn",
  .free "set",
  .exc "BadOrder",
  .glo "BadOrder",
  .glo "need_kinds",
  .glo "need_order",
  .free "str",
  .int "MOST_RUNS" 40,
  .int "MOST_LENGTH" 1000000,
  .int "LEAST_WAYS" 2,
  .int "MOST_WAYS" 6,
  .free "isinstance",
  .glo "runs_in",
  .free "sum",
  .glo "rows_in",
  .glo "moved",
  .glo "are_merges",
  .glo "need_lengths",
  .glo "need_ways",
  .free "sorted",
  .exc "BadPlan",
  .glo "BadPlan",
  .glo "text_of",
  .glo "cost",
  .free "min",
  .free "enumerate",
  .glo "_law_number",
  .free "max",
  .glo "_law_fits",
  .glo "_law_in",
  .glo "_law_class",
  .glo "BadKinds",
  .glo "BadRows",
  .glo "BadRuns",
  .glo "BadRoom",
  .glo "BadLengths",
  .glo "BadPaper",
  .glo "BadCount",
  .glo "BadBlock",
  .glo "Stopped",
  .glo "Shut",
  .glo "NotYet",
  .glo "Empty",
  .glo "BadText",
  .free "ValueError",
  .glo "SortError",
  .glo "_law_told",
  .free "bool",
  .glo "_law_alike",
  .int "MOST_FIGURES" 2,
  .str "FIGURES" "0123456789",
  .glo "number_of",
  .glo "plan_from",
  .glo "_law_begun",
  .glo "_law_kinds",
  .glo "_law_order",
  .glo "_law_lengths",
  .glo "written_order",
  .glo "_law_plan",
  .glo "written_plan",
  .glo "_law_spoilt",
  .glo "_law_order_due",
  .glo "_law_plan_due",
  .glo "read_order",
  .glo "read_plan",
  .glo "law"]
def tf : List He.Defn := [("law", none)]
def fe : List Str := ["BadText", "BadOrder", "BadPlan"]
def fm : List (Str × Str) := [("BadRuns", "number"), ("BadRows", "place"), ("BadText", "place")]
def fr : Hx.Fs := fm.map (fun p K => Rs.emB p.1 p.2 K) ++ fa.map fun f K => f.ok K
def fs : Hx.Fs := (fun K => decide ((tf.map fun p => (He.cT K p).2).Nodup)) :: (fe.map (fun x K => Rs.errB x K) ++ fr)
/-! ### the head -/
def loose : List PySem.Str := (["__name__", "SortError", "BadKinds", "BadOrder", "BadRows", "BadRuns", "BadRoom", "BadLengths", "BadPlan", "BadPaper", "BadCount", "BadBlock", "Stopped", "Shut", "NotYet", "Empty", "BadText", "NUMBER", "WORD", "MOST_COLUMNS", "UP", "DOWN", "need_kinds", "is_turn", "need_order", "MOST_RUNS", "MOST_LENGTH", "LEAST_WAYS", "MOST_WAYS", "need_lengths"] : List PySem.Str) ++ (["need_ways", "runs_in", "are_merges", "rows_in", "moved", "cost", "FIGURES", "MOST_FIGURES", "written_order", "number_of", "read_order", "text_of", "written_plan", "plan_from", "read_plan", "_law_begun", "_law_take", "_law_alike", "_law_class", "_law_told", "_law_all", "_law_kinds", "_law_order", "_law_value", "_law_rows", "_law_ahead", "_law_sorted", "_law_pairs", "_law_lengths", "_law_plan"] : List PySem.Str) ++ (["_law_side", "_law_in", "_law_cost", "_law_fits", "_law_number", "_law_order_due", "_law_plan_due", "_law_spoilt"] : List PySem.Str)
abbrev R : PySem.W.OpenRow := PySem.W.OpenLaw.row PySem.Challenge.rw_runsorts_k22_texts_refused
abbrev hk : PySem.W.Hook := Hx.hookMT fs fn tf
def ob (s : PySem.W.SharedT) : He.AlD × Bool := Hx.obsMT fs fn tf (HandSHeadRun.getT s)
theorem ob_eq (s : PySem.W.SharedT) : ob s = hk.obs s.abs := Hx.obsMT_eq (HandSHeadRun.getT_eq s)
theorem run (w : World) : HandSHeadRun.RunEq R (PySem.W.view R.prog [72]) hk ob 15000 loose w := by
  intro os
  kernel_rfl
end Lw
namespace Rs
open PySem PySem.Spec PyProof.Rows L2

abbrev xAdd : R2 := rI0 fun i j => .int (i + j)
abbrev xSub : R2 := rI0 fun i j => .int (i - j)
abbrev xMul : R2 := rI CMul fun i j => .int (i * j)
abbrev xDiv : R2 := rI CDivW fun i j => .int (i / j)
abbrev xMod : R2 := rI (fun _ j => 0 < j) fun i j => .int (i % j)
abbrev xPow : R2 := rI CPow fun i j => .int (i ^ j.toNat)
abbrev xAddS : R2 := fun x y H Q => ∃ i j, x = .str i ∧ y = .str j ∧ i.length + j.length ≤ sizeLine ∧ Q (.str (i ++ j)) H
abbrev xLt : R2 := rI0 fun i j => .bl (decide (i < j))
abbrev xLe : R2 := rI0 fun i j => .bl (decide (i ≤ j))
abbrev xGt : R2 := rI0 fun i j => .bl (decide (j < i))
abbrev xLen (K : PySem.W.Frag) : List V → Hp → VK → Prop := fun xs H Q => ∃ p ys, xs = [.ref p] ∧ (SqL K H p ys ∨ SqT K H p ys) ∧ Q (.int ys.length) H
abbrev xLenS : List V → Hp → VK → Prop := fun xs H Q => ∃ z, xs = [.str z] ∧ z.length ≤ sizeLine ∧ Q (.int z.length) H
abbrev xInt : List V → Hp → VK → Prop := fun xs H Q => (∃ i, xs = [.int i] ∧ Q (.int i) H) ∨ ∃ k, xs = [.bl k] ∧ Q (.int (if k then 1 else 0)) H
abbrev xIntS : List V → Hp → VK → Prop := fun xs H Q => ∃ a n, xs = [.str a] ∧ PySem.intText? a = some n ∧ a.length ≤ 640 ∧ Q (.int n) H
abbrev xStr : List V → Hp → VK → Prop := fun xs H Q => ∃ i, xs = [.int i] ∧ i.natAbs.log2 < 1920 ∧ Q (.str (toString i)) H
abbrev xList (K : PySem.W.Frag) : List V → Hp → VK → Prop := fun xs H Q => ∃ p ys, xs = [.ref p] ∧ (SqL K H p ys ∨ SqT K H p ys) ∧ ∀ l, H l = none → Q (.ref l) (upd H l (.lst ys))
abbrev xTuple (K : PySem.W.Frag) : List V → Hp → VK → Prop := fun xs H Q => ∃ p ys, xs = [.ref p] ∧ ((SqL K H p ys ∧ ∀ l, H l = none → Q (.ref l) (upd H l (.tup ys))) ∨ (SqT K H p ys ∧ Q (.ref p) H))
abbrev xMin2 : List V → Hp → VK → Prop := fun xs H Q => ∃ i j, xs = [.int i, .int j] ∧ Q (.int (if j < i then j else i)) H
abbrev xInsert : V → List V → Hp → VK → Prop := fun x vs H Q => ∃ (l : Addr) (xs : List V) (i : Int) (y : V), x = .ref l ∧ vs = [.int i, y] ∧ H l = some (.lst xs) ∧ xs.length < sizeLine ∧ 0 ≤ i ∧ i < 2 ^ 63 ∧ Q .non (upd H l (.lst (xs.take i.toNat ++ [y] ++ xs.drop i.toNat)))
abbrev xJoin (K : PySem.W.Frag) : V → List V → Hp → VK → Prop := fun x xs H Q => ∃ a p, ∃ ys : List Str, x = .str a ∧ xs = [.ref p] ∧ (SqL K H p (ys.map V.str) ∨ SqT K H p (ys.map V.str)) ∧ (ys.map (·.length)).sum + ys.length * a.length ≤ 16777216 ∧ Q (.str (Txt.join a ys)) H
abbrev xSplit : V → List V → Hp → VK → Prop := fun x xs H Q => ∃ a b, x = .str a ∧ xs = [.str b] ∧ (b.length == 0) = false ∧ a.length + 2 ≤ sizeLine ∧ rNewStrs (Txt.split a b) H Q
def xEqE (K : PySem.W.Frag) : R2 := fun x y H Q => ∃ a b xs ys, x = .ref a ∧ y = .ref b ∧ SqL K H a xs ∧ SqL K H b ys ∧ (xs = [] ∨ ys = []) ∧ Q (.bl (decide (xs.length = ys.length))) H
def xNeE (K : PySem.W.Frag) : R2 := fun x y H Q => ∃ a b xs ys, x = .ref a ∧ y = .ref b ∧ SqL K H a xs ∧ SqL K H b ys ∧ (xs = [] ∨ ys = []) ∧ Q (.bl (!decide (xs.length = ys.length))) H
section
variable {X : Cx}
end
theorem hu64 {A : Around} {k : Nat} (hr : Room k A) : A.units + 64 < cLine := hr.units
def tOpC (r : R2) (ta : TE) (v : V) : TE := fun σ H Q => ta σ H fun x H1 => r x v H1 Q
def tOpD (r : R2) (v : V) (tb : TE) : TE := fun σ H Q => tb σ H fun y H1 => r v y H1 Q
def tConsC (v : V) (tr : TA) : TA := fun σ H Q => tr σ H fun xs H1 => Q (v :: xs) H1
def gSubC (to : TE) (i : V) (t : TSet) : TG := fun v σ H Q => to σ H fun o H1 => t o i v H1 fun H3 => Q σ H3
section
variable {X : Cx} {a b e : Expr} {es : List Expr} {r : R2} {ta tb : TE} {t : TA} {v : V} {pos : Pos}
theorem pe_opC {op : Operator} (ho : OpR X (binaryOp op) r) (ha : PE X a ta) (hb : PE X b (tC v)) : PE X (.BinOp a op b pos) (tOpC r ta v) := pe_op ho ha hb
theorem pe_opD {op : Operator} (ho : OpR X (binaryOp op) r) (ha : PE X a (tC v)) (hb : PE X b tb) : PE X (.BinOp a op b pos) (tOpD r v tb) := pe_op ho ha hb
theorem pe_cmpRC {op : CmpOp} (ho : OpR X (compareOp op) r) (ha : PE X a ta) (hb : PE X b (tC v)) (hm : behindInMarks op b = false) : PE X (.Compare a [op] [b] pos) (tOpC r ta v) := pe_cmpR ho ha hb hm
theorem pt_cmpRC {op : CmpOp} (ho : OpR X (compareOp op) r) (ha : PE X a ta) (hb : PE X b (tC v)) (hm : behindInMarks op b = false) : PT X (.Compare a [op] [b] pos) (tTest (tOpC r ta v)) := pt_cmpR ho ha hb hm
theorem pe_ixC (hr : IxR X r) (ha : PE X a ta) (hb : PE X b (tC v)) (hs : PlainIx b) : PE X (.Subscript a b pos) (tOpC r ta v) := pe_ix hr ha hb hs
theorem pa_consC (he : PE X e (tC v)) (hr : PA X es t) (h : starEach (e :: es) X.env = (false, eval e X.env) :: starEach es X.env := by rfl) : PA X (e :: es) (tConsC v t) := pa_cons he hr h
theorem pe_unN {i : Int} (ha : PE X a (tC (.int i))) : PE X (.UnaryOp .USub a pos) (tC (.int (-i))) := by
  refine ⟨fun pins s σ H Q I h => (pe_un un_neg ha).run pins s σ H Q I ?_⟩
  exact ⟨i, rfl, h⟩
theorem pg_subC {t : TSet} (ho : PE X a ta) (hi : PE X b (tC v)) (hs : PSet X t) (ha : ∀ v, assign (.Subscript a b pos) X.env v = (do
      let ov ← holding [v] (eval a X.env)
      let iv ← holding [v, ov] (eval b X.env)
      standAt pos
      holding [v, ov, iv] (setItem ov iv v)
      release [v, ov, iv] []) := by intro _; rfl) : PG X (.Subscript a b pos) (gSubC ta v t) := pg_sub ho hi hs ha
end
section
variable {X : Cx}
theorem two_lists {pins : List (Addr × Obj)} {σ : L2.St} {H : Hp} {s : Shared} {a b : Addr} {xs ys : List V} (I : Inv X pins σ H s) (h1 : SqL X.K H a xs) (h2 : SqL X.K H b ys) :
    ∃ i1 i2 : List Value, s.heap.IsList a i1.toArray ∧ s.heap.IsList b i2.toArray ∧ xs.length = i1.length ∧ ys.length = i2.length := by
  obtain ⟨i1, r1, ⟨o, n, ho, hc, _, hd⟩, _⟩ := I.list h1
  obtain ⟨i2, r2, ⟨o2, n2, ho2, hc2, _, hd2⟩, _⟩ := I.list h2
  exact ⟨i1, i2, ⟨o, ho, hc, n, hd⟩, ⟨o2, ho2, hc2, n2, hd2⟩, r1.length, r2.length⟩
theorem opx_eqE (hu : X.A.units + 1 < cLine) : OpR X (compareOp .Eq) (xEqE X.K) := by
  intro pins s σ H x y v u Q I rx ry h
  obtain ⟨a, b, xs, ys, rfl, rfl, h1, h2, he, q⟩ := h
  cases rx
  cases ry
  obtain ⟨i1, i2, p1, p2, l1, l2⟩ := two_lists I h1 h2
  show wpAny (model X.prog X.w) X.A (richCompare .Eq (.ref a) (.ref b)) _ _ s
  by_cases e : xs.length = ys.length
  · rw [decide_eq_true e] at q
    have z : i1 = [] ∧ i2 = [] := by
      constructor <;> apply List.eq_nil_of_length_eq_zero <;> rcases he with he | he <;> subst he <;> simp at e l1 l2 <;> simp_all
    obtain ⟨z1, z2⟩ := z
    subst z1
    subst z2
    exact SeqAt.RcAt.lists (e := fun _ => true) p1 p2 rfl (by omega) (fun j h _ => absurd h (by simp)) _ _ _ _ ⟨.bl true, H, I, rfl, q⟩
  · rw [decide_eq_false e] at q
    exact SeqAt.RcAt.lists_lengths p1 p2 (by rw [List.size_toArray, List.size_toArray, ← l1, ← l2]; simpa using e) (by omega) _ _ _ _ ⟨.bl false, H, I, rfl, q⟩
theorem opx_neE (hu : X.A.units + 1 < cLine) : OpR X (compareOp .NotEq) (xNeE X.K) := by
  intro pins s σ H x y v u Q I rx ry h
  obtain ⟨a, b, xs, ys, rfl, rfl, h1, h2, he, q⟩ := h
  cases rx
  cases ry
  obtain ⟨i1, i2, p1, p2, l1, l2⟩ := two_lists I h1 h2
  show wpAny (model X.prog X.w) X.A (richCompare .NotEq (.ref a) (.ref b)) _ _ s
  by_cases e : xs.length = ys.length
  · rw [decide_eq_true e] at q
    have z : i1 = [] ∧ i2 = [] := by
      constructor <;> apply List.eq_nil_of_length_eq_zero <;> rcases he with he | he <;> subst he <;> simp at e l1 l2 <;> simp_all
    obtain ⟨z1, z2⟩ := z
    subst z1
    subst z2
    exact SeqAt.RcNeAt.lists (e := fun _ => true) p1 p2 rfl (by omega) (fun j h _ => absurd h (by simp)) _ _ _ _ ⟨.bl false, H, I, rfl, q⟩
  · rw [decide_eq_false e] at q
    exact SeqAt.RcNeAt.lists_lengths p1 p2 (by rw [List.size_toArray, List.size_toArray, ← l1, ← l2]; simpa using e) (by omega) _ _ _ _ ⟨.bl true, H, I, rfl, q⟩
end

section
variable {X : Cx} {x : Str} {pos : Pos}
theorem pe_gint {i : Int} (hg : Gl X x) (hm : ∃ t, X.mg x = some (.int i t)) (hd : (x == ("__debug__" : Str)) = false := by decide) : PE X (.Name x pos) (tC (.int i)) := by
  obtain ⟨t, e⟩ := hm
  exact pe_glob hg e ⟨t, rfl⟩ hd
theorem pe_gstr {z : Str} (hg : Gl X x) (hm : ∃ t, X.mg x = some (.str z t)) (hd : (x == ("__debug__" : Str)) = false := by decide) : PE X (.Name x pos) (tC (.str z)) := by
  obtain ⟨t, e⟩ := hm
  exact pe_glob hg e ⟨t, rfl⟩ hd
def tIsi (K : PySem.W.Frag) (c : String) (ta : TE) : TE := fun σ H Q => ta σ H fun x H1 => rIsi K [x, .ty c] H1 Q
theorem pe_isi {a b : Expr} {c : String} {ta : TE} {p pos : Pos} (hg : Gl X "isinstance") (hm : X.mg "isinstance" = none) (ha : PE X a ta) (hb : PE X b (tC (.ty c)))
    (e1 : starEach [a, b] X.env = (false, eval a X.env) :: starEach [b] X.env := by rfl) (e3 : starEach [b] X.env = (false, eval b X.env) :: starEach [] X.env := by rfl) (e2 : (backTo pos (starEach [b] X.env)).any (·.1) = false := by rfl) :
    PE X (.Call (.Name "isinstance" p) [a, b] [] pos) (tIsi X.K c ta) := pe_callB call_isi hg hm (by decide +kernel) (pa_cons ha (pa_cons hb pa_nil e3) e1) (by decide) (by decide) e1 e2
def tCB1 (r : List V → Hp → VK → Prop) (ta : TE) : TE := fun σ H Q => ta σ H fun x H1 => r [x] H1 Q
theorem pe_callB1 {a : Expr} {ta : TE} {r : List V → Hp → VK → Prop} {id : String} {p : Pos} (hc : CallR X (.builtin id) r) (hg : Gl X x) (hm : X.mg x = none) (hv : bootBuiltins x = some (.builtin id)) (ha : PE X a ta) (hn : x ≠ "__name__" := by decide) (hd : (x == ("__debug__" : Str)) = false := by decide)
    (e1 : starEach [a] X.env = (false, eval a X.env) :: starEach [] X.env := by rfl) : PE X (.Call (.Name x p) [a] [] pos) (tCB1 r ta) := pe_callB hc hg hm hv (pa_cons ha pa_nil e1) hn hd e1 rfl
theorem pe_callTy1 {a : Expr} {ta : TE} {r : List V → Hp → VK → Prop} {T : String} {p : Pos} (hc : CallR X (.type T) r) (hg : Gl X x) (hm : X.mg x = none) (hv : bootBuiltins x = some (.type T)) (ha : PE X a ta) (hn : x ≠ "__name__" := by decide) (hd : (x == ("__debug__" : Str)) = false := by decide)
    (e1 : starEach [a] X.env = (false, eval a X.env) :: starEach [] X.env := by rfl) : PE X (.Call (.Name x p) [a] [] pos) (tCB1 r ta) := pe_callTy hc hg hm hv (pa_cons ha pa_nil e1) hn hd e1 rfl
theorem isi_go {K : PySem.W.Frag} {c t : String} {x : V} {H : Hp} {Q : VK} {b : Bool} (ty : TyX K H x (.type t)) (h : kitB t c = some b) (q : Q (.bl b) H) : rIsi K [x, .ty c] H Q :=
  ⟨x, .ty c, _, _, b, rfl, .ty c, ty, kit_ty h, q⟩
end

section
variable {X : Cx}
def dcount (ns : List Int) : Nat := (PyProof.Rows.firstMet (fun i => ns.getD i 0) ns.length).length
theorem dcount_nodup {ns : List Int} (h : ns.Nodup) : dcount ns = ns.length := by
  unfold dcount
  rw [RZ.firstMet_nodup h ns.length (Nat.le_refl _), List.take_length]
def tLenSetX (K : PySem.W.Frag) (ta : TE) : TE := fun σ H Q => ta σ H fun x H1 => ∃ (l : Addr) (ns : List Int), x = .ref l ∧ SqL K H1 l (ns.map V.int) ∧ ns.length ≤ 4000 ∧ Q (.int (dcount ns : Nat)) H1
theorem pe_lenSetX {a : Expr} {ta : TE} {p p2 q pos : Pos} (hg : Gl X "len") (hm : X.mg "len" = none) (hg2 : Gl X "set") (hm2 : X.mg "set" = none) (ha : PE X a ta) (hc : X.calm = true := by rfl)
    (na : starEach [a] X.env = (false, eval a X.env) :: starEach [] X.env := by rfl) : PE X (.Call (.Name "len" p) [.Call (.Name "set" p2) [a] [] q] [] pos) (tLenSetX X.K ta) := by
  refine ⟨fun pins s σ H Q I h => ?_⟩
  refine Call_ (ld_blt I hg hm boot_len ?_)
  refine PyProof.Rows.callWith_builtin1 (PyProof.Rows.args_cons ?_ rfl) rfl rfl
  refine Call_ (ld_blt I hg2 hm2 PyProof.Rows.boot_set ?_)
  refine PyProof.Rows.callWith_type1 (PyProof.Rows.args_cons (thn (ha.run pins s σ H _ I h) fun v s1 ⟨x, H1, I1, r1, q1⟩ => PyProof.Rows.args_nil ?_) na) na rfl
  obtain ⟨l, ns, rfl, hq, hl, q1⟩ := q1
  cases r1
  obtain ⟨its, r, pl, hz⟩ := I1.list hq
  have hlen : its.toArray.size = ns.length := by rw [List.size_toArray, ← r.length, List.length_map]
  refine call_set_list (I1.ok.hd hc) pl.isList (by simpa using RZ.intsAre_vals r) (by rw [hlen]; unfold scanBound; omega) fun h' tk hS hk => ?_
  refine PyProof.Rows.args_nil ?_
  rw [hlen] at hS
  obtain ⟨o, es, ep, t, ho, hex, hd, _, _, _, hf, hn⟩ := hS
  have I2 : Inv X pins σ H1 { s1 with heap := h', toks := tk } := I1.kept fun b o e => hk b o (Heap.lt_size e) e
  have hle : dcount ns ≤ ns.length := PyProof.Rows.firstMet_length_le _ _
  have hn' : es.size = dcount ns := hn
  exact call_len_set ho hex hd hf (by rw [hn'] <;> omega) ⟨.int (dcount ns : Nat), H1, I2.tok _, ⟨_, by rw [hn'] <;> rfl⟩, q1⟩
end

def Can (P : Program) (w : World) (K : PySem.W.Frag) (mg : Str → Option Value) (base : Heap) (k : Nat) (at_ : Str × Option Str) (ps : List Str) (sp : Sp) : Prop :=
  ∃ fd, FnOk P w K mg base (L2.CX P w) k (He.fAd K at_) fd ps sp ∧ Binds K fd ps [] ∧ PySem.W.keepIn K (.ref (He.fAd K at_)) = true
section
variable {P : Program} {w : World} {K : PySem.W.Frag} {mg : Str → Option Value} {base : Heap} {k : Nat} {at_ : Str × Option Str} {ps : List Str} {sp sp' : Sp}
theorem Can.mono {j : Nat} (F : Can P w K mg base j at_ ps sp) (h : j ≤ k) : Can P w K mg base k at_ ps sp := by
  obtain ⟨fd, F, b, kp⟩ := F
  exact ⟨fd, F.mono h, b, kp⟩
theorem Can.imp (F : Can P w K mg base k at_ ps sp) (h : ∀ vs H Q E, sp' vs H Q E → sp vs H Q E) : Can P w K mg base k at_ ps sp' := by
  obtain ⟨fd, F, b, kp⟩ := F
  exact ⟨fd, F.imp h, b, kp⟩
def TupLe (H H' : Hp) : Prop := ∀ a xs, H a = some (.tup xs) → H' a = some (.tup xs)
theorem TupLe.refl (H : Hp) : TupLe H H := fun _ _ h => h
theorem TupLe.trans {H H1 H2 : Hp} (a : TupLe H H1) (b : TupLe H1 H2) : TupLe H H2 := fun x o h => b x o (a x o h)
theorem TupLe.same {H H' : Hp} (a : Same H H') : TupLe H H' := fun x o h => a x _ h
theorem TupLe.put {H H' : Hp} {p : Addr} {o : HO} (a : TupLe H H') (h : ∀ xs, H' p ≠ some (.tup xs)) : TupLe H (upd H' p o) := fun x xs e => by
  have e2 := a x xs e
  rw [upd_ne (fun z => by rw [z] at e2; exact h xs e2)]
  exact e2
end
section
variable {X : Cx} {k : Nat} {x C m : Str} {ps : List Str} {sp : Sp} {E : XK} {p pos apos : Pos} {e o : Expr} {es : List Expr} {ta : TE} {t : TA} {M : Option Str}
theorem pe_callC (F : Can X.prog X.w X.K X.mg X.base k (x, none) ps sp) (hr : Room k X.A) (hg : Gl X x) (hm : X.mg x = some (.ref (He.ga X.K x))) (hx : Passes (L2.CX X.prog X.w) X E)
    (ha : PA X (e :: es) t) (hdb : (x == ("__debug__" : Str)) = false := by decide) (he : starEach (e :: es) X.env = (false, eval e X.env) :: starEach es X.env := by rfl) (hpl : (backTo pos (starEach es X.env)).any (·.1) = false := by rfl) :
    PE X (.Call (.Name x p) (e :: es) [] pos) (tCall sp [] E t) := by
  obtain ⟨fd, F, b, kp⟩ := F
  exact pe_call F hr hg hm kp b .nil hx ha hdb he hpl
end
theorem can_of {P : Program} {w : World} {K : PySem.W.Frag} {mg : Str → Option Value} {base : Heap} {k : Nat} {x qual : Str} {at_ : Str × Option Str} {params : Arguments} {body : List Stmt} {scope : Scope} {N ps : List Str} {sp : Sp} {fd : FuncData}
    (F : FunD K x qual params body scope [] [] (He.fAd K at_) fd) (b : Binds K fd ps []) (S : FnScope N ps scope) (len : ∀ vs H Q E, sp vs H Q E → vs.length = ps.length)
    (t : XK → TS) (h : ∀ (cdv : Value) (A : Around) (outer : List Env) (s : Shared) (H : Hp) (E : XK), Room k (A.deeper (envOfC qual scope s.heap.objs.size (He.fAd K at_) cdv)) →
      PSs (cxOf (L2.CX P w) P w K mg base N qual scope (He.fAd K at_) cdv A outer s H E) body (t E))
    (pure_ : ∀ vs H Q E, sp vs H Q E → t E { nx := fun _ H' => Q .non H', rt := Q } (start N vs) H) : Can P w K mg base (k + 1) at_ ps sp :=
  ⟨fd, F.ok S len fun cdv A outer s H vs Q E hr hsp => ⟨t E, h cdv A outer s H E hr, pure_ vs H Q E hsp⟩, b, F.kp⟩

theorem can_false {P : Program} {w : World} {K : PySem.W.Frag} {mg : Str → Option Value} {base : Heap} {k : Nat} {x qual : Str} {at_ : Str × Option Str} {params : Arguments} {body : List Stmt} {scope : Scope} {ps : List Str} {sp : Sp} {fd : FuncData}
    (F : FunD K x qual params body scope [] [] (He.fAd K at_) fd) (b : Binds K fd ps []) (h : ∀ vs H Q E, ¬ sp vs H Q E) : Can P w K mg base k at_ ps sp :=
  ⟨fd, ⟨fun vs H Q E q => (h vs H Q E q).elim, fun A outer s H args us vs Q E hr he hb hv hs => (h vs H Q E hs).elim⟩, b, F.kp⟩
theorem can_rec {P : Program} {w : World} {K : PySem.W.Frag} {mg : Str → Option Value} {base : Heap} {lev : Nat} {x qual : Str} {at_ : Str × Option Str} {params : Arguments} {body : List Stmt} {scope : Scope} {N ps : List Str} {sp : Nat → Sp} {fd : FuncData}
    (F : FunD K x qual params body scope [] [] (He.fAd K at_) fd) (b : Binds K fd ps []) (S : FnScope N ps scope) (len : ∀ d vs H Q E, sp d vs H Q E → vs.length = ps.length) (no : ∀ vs H Q E, ¬ sp 0 vs H Q E)
    (t : Sp → XK → TS) (h : ∀ (d : Nat), Can P w K mg base (lev + d) at_ ps (sp d) → ∀ (cdv : Value) (A : Around) (outer : List Env) (s : Shared) (H : Hp) (E : XK), Room (lev + d) (A.deeper (envOfC qual scope s.heap.objs.size (He.fAd K at_) cdv)) →
      PSs (cxOf (L2.CX P w) P w K mg base N qual scope (He.fAd K at_) cdv A outer s H E) body (t (sp d) E))
    (pure_ : ∀ d vs H Q E, sp (d + 1) vs H Q E → t (sp d) E { nx := fun _ H' => Q .non H', rt := Q } (start N vs) H) : ∀ d, Can P w K mg base (lev + d) at_ ps (sp d)
  | 0 => can_false F b no
  | d + 1 => can_of F b S (len (d + 1)) (t (sp d)) (h d (can_rec F b S len no t h pure_ d)) (pure_ d)

end Rs

namespace Rs
open PySem PySem.Spec PyProof.Rows L2
section
variable {α β : Type} {F G : α → β → Prop}
theorem P2.get : ∀ {l : List α} {m : List β}, Paired F l m → ∀ {i : Nat} {a : α}, l[i]? = some a → ∃ b, m[i]? = some b ∧ F a b
  | _, _, .nil, _, _, e => by simp at e
  | _, _, .cons h t, 0, a, e => by simp at e; subst e; exact ⟨_, rfl, h⟩
  | _, _, .cons h t, i + 1, a, e => by simpa using P2.get t (i := i) (by simpa using e)
theorem P2.get' : ∀ {l : List α} {m : List β}, Paired F l m → ∀ {i : Nat} {b : β}, m[i]? = some b → ∃ a, l[i]? = some a ∧ F a b
  | _, _, .nil, _, _, e => by simp at e
  | _, _, .cons h t, 0, a, e => by simp at e; subst e; exact ⟨_, rfl, h⟩
  | _, _, .cons h t, i + 1, a, e => by simpa using P2.get' t (i := i) (by simpa using e)
theorem P2.mono (f : ∀ a b, F a b → G a b) : ∀ {l : List α} {m : List β}, Paired F l m → Paired G l m
  | _, _, .nil => .nil
  | _, _, .cons h t => .cons (f _ _ h) (P2.mono f t)
theorem P2.app : ∀ {l l' : List α} {m m' : List β}, Paired F l m → Paired F l' m' → Paired F (l ++ l') (m ++ m')
  | _, _, _, _, .nil, q => q
  | _, _, _, _, .cons h t, q => .cons h (P2.app t q)
theorem P2.one {a : α} {b : β} (h : F a b) : Paired F [a] [b] := .cons h .nil
theorem P2.take : ∀ (n : Nat) {l : List α} {m : List β}, Paired F l m → Paired F (l.take n) (m.take n)
  | 0, _, _, _ => .nil
  | _ + 1, _, _, .nil => .nil
  | n + 1, _, _, .cons h t => .cons h (P2.take n t)
theorem P2.drop : ∀ (n : Nat) {l : List α} {m : List β}, Paired F l m → Paired F (l.drop n) (m.drop n)
  | 0, _, _, q => q
  | _ + 1, _, _, .nil => .nil
  | n + 1, _, _, .cons h t => P2.drop n t
theorem P2.set {a : α} {b : β} (h : F a b) : ∀ (n : Nat) {l : List α} {m : List β}, Paired F l m → Paired F (l.set n a) (m.set n b)
  | _, _, _, .nil => .nil
  | 0, _, _, .cons _ t => .cons h t
  | n + 1, _, _, .cons q t => .cons q (P2.set h n t)
theorem P2.erase : ∀ (n : Nat) {l : List α} {m : List β}, Paired F l m → Paired F (l.eraseIdx n) (m.eraseIdx n)
  | _, _, _, .nil => .nil
  | 0, _, _, .cons _ t => t
  | n + 1, _, _, .cons q t => .cons q (P2.erase n t)
theorem P2.map {γ : Type} {f : γ → α} {g : γ → β} : ∀ (l : List γ), (∀ x ∈ l, F (f x) (g x)) → Paired F (l.map f) (l.map g)
  | [], _ => .nil
  | x :: l, h => .cons (h x (List.mem_cons_self ..)) (P2.map l fun y hy => h y (List.mem_cons_of_mem _ hy))
theorem P2.last {l : List α} {m : List β} {a : α} {b : β} (h : Paired F (l ++ [a]) (m ++ [b])) : F a b := by
  have e : (l ++ [a]).length = (m ++ [b]).length := h.length
  simp at e
  obtain ⟨b', h1, h2⟩ := P2.get h (i := l.length) (a := a) (by simp)
  rw [e] at h1
  simp at h1
  rw [h1]
  exact h2
end
theorem drop_cons {α : Type} : ∀ {l : List α} {i : Nat} {x : α}, l[i]? = some x → l.drop i = x :: l.drop (i + 1)
  | [], _, _, h => by simp at h
  | a :: l, 0, x, h => by simp at h; subst h; rfl
  | a :: l, i + 1, x, h => by simpa using drop_cons (l := l) (i := i) (by simpa using h)
abbrev Rel (α : Type) := Hp → V → α → Prop
def Stable {α : Type} (R : Rel α) : Prop := ∀ (H H' : Hp) (v : V) (x : α), TupLe H H' → R H v x → R H' v x
def IsTp (H : Hp) (v : V) (xs : List V) : Prop := ∃ a, v = .ref a ∧ H a = some (.tup xs)
theorem IsTp.mono {H H' : Hp} {v : V} {xs : List V} (t : TupLe H H') (h : IsTp H v xs) : IsTp H' v xs := let ⟨a, e, q⟩ := h; ⟨a, e, t a xs q⟩
abbrev Row := List Key
abbrev Pr := Int × Row
abbrev Ord := List (Nat × Bool)
def wayS (b : Bool) : Str := if b = true then "up" else "down"
def RowAt : Rel Row := fun H v r => IsTp H v (r.map kV)
def PairAt : Rel Pr := fun H v p => ∃ w, IsTp H v [.int p.1, w] ∧ RowAt H w p.2
def TurnAt : Rel (Nat × Bool) := fun H v t => IsTp H v [.int (t.1 : Int), .str (wayS t.2)]
def IntAt : Rel Int := fun _ v i => v = .int i
def KeyAt : Rel Key := fun _ v i => v = kV i
theorem RowAt.st : Stable RowAt := fun _ _ _ _ t h => IsTp.mono t h
theorem PairAt.st : Stable PairAt := fun _ _ _ _ t ⟨w, a, b⟩ => ⟨w, a.mono t, b.mono t⟩
theorem TurnAt.st : Stable TurnAt := fun _ _ _ _ t h => IsTp.mono t h
theorem IntAt.st : Stable IntAt := fun _ _ _ _ _ h => h
theorem KeyAt.st : Stable KeyAt := fun _ _ _ _ _ h => h
def Lst {α : Type} (R : Rel α) (H : Hp) (l : Addr) (xs : List α) : Prop := ∃ vs, H l = some (.lst vs) ∧ Paired (R H) vs xs
def LstV {α : Type} (R : Rel α) : Rel (List α) := fun H v xs => ∃ l, v = .ref l ∧ Lst R H l xs
section
variable {α : Type} {R : Rel α} {H H' : Hp} {l : Addr} {xs : List α}
theorem Lst.len (h : Lst R H l xs) : ∃ vs, H l = some (.lst vs) ∧ vs.length = xs.length := let ⟨vs, a, b⟩ := h; ⟨vs, a, b.length⟩
theorem Paired.tl (s : Stable R) (t : TupLe H H') {vs : List V} (h : Paired (R H) vs xs) : Paired (R H') vs xs := P2.mono (fun v x q => s H H' v x t q) h
theorem Lst.keep (s : Stable R) (t : TupLe H H') (h : Lst R H l xs) (e : ∀ o, H l = some o → H' l = some o) : Lst R H' l xs := let ⟨vs, a, b⟩ := h; ⟨vs, e _ a, Paired.tl s t b⟩
theorem Lst.same (s : Stable R) (k : Same H H') (h : Lst R H l xs) : Lst R H' l xs := h.keep s (TupLe.same k) fun o => k l o
theorem LstV.same (s : Stable R) (k : Same H H') {v : V} (h : LstV R H v xs) : LstV R H' v xs := let ⟨l, e, q⟩ := h; ⟨l, e, q.same s k⟩
end
theorem Same.new {H : Hp} {p : Addr} {o : HO} (h : H p = none) : Same H (upd H p o) := fun a u e => by
  rw [upd_ne (ne_of_none e h)]
  exact e
theorem Same.mut {H H' : Hp} {p : Addr} {o : HO} (e : Same H H') (h : H p = none) : Same H (upd H' p o) := fun a u ha => by
  rw [upd_ne (ne_of_none ha h)]
  exact e a u ha
theorem TupLe.new {H : Hp} {p : Addr} {o : HO} (h : H p = none) : TupLe H (upd H p o) := TupLe.same (Same.new h)
theorem TupLe.list {H H' : Hp} {p : Addr} {o : HO} {vs : List V} (a : TupLe H H') (h : H' p = some (.lst vs)) : TupLe H (upd H' p o) := a.put fun xs e => by rw [h] at e; cases e
def But (S : List Addr) (H H' : Hp) : Prop := ∀ b o, H b = some o → b ∉ S → H' b = some o
theorem But.refl (S : List Addr) (H : Hp) : But S H H := fun _ _ h _ => h
theorem But.trans {S : List Addr} {H H1 H2 : Hp} (a : But S H H1) (b : But S H1 H2) : But S H H2 := fun c o h n => b c o (a c o h n) n
theorem But.same {S : List Addr} {H H1 : Hp} (a : Same H H1) : But S H H1 := fun c o h _ => a c o h
theorem But.new {S : List Addr} {H H1 : Hp} {p : Addr} {o : HO} (a : But S H H1) (h : H1 p = none) : But S H (upd H1 p o) := fun c u e n => by
  have e2 := a c u e n
  rw [upd_ne (ne_of_none e2 h)]
  exact e2
theorem But.put {S : List Addr} {H H1 : Hp} {p : Addr} {o : HO} (a : But S H H1) (h : p ∈ S) : But S H (upd H1 p o) := fun c u e n => by
  rw [upd_ne (fun z => n (by rw [z]; exact h))]
  exact a c u e n
end Rs
namespace Rs
open PySem PySem.Spec PyProof.Rows L2
theorem But.mut {S : List Addr} {H H1 : Hp} {p : Addr} {o : HO} (a : But S H H1) (h : H p = none) : But S H (L2.upd H1 p o) := fun c u e n => by
  rw [upd_ne (ne_of_none e h)]
  exact a c u e n
theorem But.fresh {S : List Addr} {H H0 H1 : Hp} (a : But S H H1) (s : Same H0 H) (h : ∀ x ∈ S, H0 x = none) : Same H0 H1 := fun c u e => a c u (s c u e) fun z => by
  rw [h c z] at e
  cases e
theorem none_of_but {S : List Addr} {H H1 : Hp} {p : Addr} (a : But S H H1) (h : H1 p = none) (n : p ∉ S) : H p = none := by
  cases q : H p with
  | none => rfl
  | some o =>
    rw [a p o q n] at h
    cases h
theorem ixN_nat {n j : Nat} (h : j < n) : ixN n (j : Int) = some j := by
  unfold ixN
  rw [if_pos (by omega), if_pos (by omega)]
  simp
section
variable {K : PySem.W.Frag} {H : Hp} {Q : VK} {x v : V} {xs : List V} {i : Int} {j : Nat}
theorem ixT (h : IsTp H x xs) (hi : i = (j : Int)) (e : xs[j]? = some v) (q : Q v H) : rIxT K x (.int i) H Q := by
  obtain ⟨a, rfl, h⟩ := h
  exact ⟨a, xs, i, v, rfl, rfl, SqT.of h, at_of hi e, q⟩
theorem ixL {a : Addr} (h : H a = some (.lst xs)) (hi : i = (j : Int)) (e : xs[j]? = some v) (q : Q v H) : rIxL K (.ref a) (.int i) H Q := ⟨a, xs, i, v, rfl, rfl, SqL.of h, at_of hi e, q⟩
theorem ixLast {a : Addr} (h : H a = some (.lst (xs ++ [v]))) (q : Q v H) : rIxL K (.ref a) (.int (-1)) H Q := ⟨a, _, _, v, rfl, rfl, SqL.of h, atI_last _ _, q⟩
theorem lenL {a : Addr} (h : H a = some (.lst xs)) {n : Int} (e : n = (xs.length : Int)) (q : Q (.int n) H) : xLen K [.ref a] H Q := by
  subst e
  exact ⟨a, xs, rfl, .inl (SqL.of h), q⟩
theorem lenT (h : IsTp H x xs) {n : Int} (e : n = (xs.length : Int)) (q : Q (.int n) H) : xLen K [x] H Q := by
  subst e
  obtain ⟨a, rfl, h⟩ := h
  exact ⟨a, xs, rfl, .inr (SqT.of h), q⟩
theorem neE {a p : Addr} (h : H a = some (.lst xs)) (hp : H p = none) {b : Bool} (e : b = !xs.isEmpty) (q : Q (.bl b) (upd H p (.lst []))) : xNeE K (.ref a) (.ref p) (upd H p (.lst [])) Q := by
  subst e
  refine ⟨a, p, xs, [], rfl, rfl, SqL.of (by rw [upd_ne (ne_of_none h hp)]; exact h), SqL.of upd_same, .inr rfl, ?_⟩
  cases xs <;> exact q
theorem eqE {a p : Addr} (h : H a = some (.lst xs)) (hp : H p = none) {b : Bool} (e : b = xs.isEmpty) (q : Q (.bl b) (upd H p (.lst []))) : xEqE K (.ref a) (.ref p) (upd H p (.lst [])) Q := by
  subst e
  refine ⟨a, p, xs, [], rfl, rfl, SqL.of (by rw [upd_ne (ne_of_none h hp)]; exact h), SqL.of upd_same, .inr rfl, ?_⟩
  cases xs <;> exact q
end
theorem lc_yes {σ : L2.St} {H : Hp} {A B : Hp → Prop} (h : A H) : tYes σ H (fun b H3 => if b = true then A H3 else B H3) := by
  show if true = true then A H else B H
  rw [if_pos rfl]
  exact h
theorem sz0 : (0 : Nat) ≤ sizeLine := Nat.zero_le _
theorem szle {n : Nat} (h : n ≤ 100000) : n ≤ sizeLine := Nat.le_trans h (by decide)
theorem szlt {n : Nat} (h : n < 100000) : n < sizeLine := Nat.lt_of_lt_of_le h (by decide)
def keyLt : Key → Key → Bool
  | .inl i, .inl j => decide (i < j)
  | .inr s, .inr t => decide (s.cps.toList < t.cps.toList)
  | _, _ => false
def kcol (r : Row) (c : Nat) : Key := r.getD c (.inl 0)
def before : Ord → Pr → Pr → Bool
  | [], p, q => decide (p.1 < q.1)
  | t :: o, p, q => if kcol p.2 t.1 = kcol q.2 t.1 then before o p q else (keyLt (kcol p.2 t.1) (kcol q.2 t.1) == t.2)
def Cmp (o : Ord) (p q : Row) : Prop := ∀ t ∈ o, t.1 < p.length ∧ t.1 < q.length ∧ (kcol p t.1).isLeft = (kcol q t.1).isLeft
theorem str_ext {s t : Str} (h : s.cps.toList = t.cps.toList) : s = t := by
  cases s; cases t
  simp at h
  subst h
  rfl
theorem newS {H H1 : Hp} {q : Addr} {o : HO} (h : H q = none) (e : L2.upd H q o = H1) : Same H H1 := by
  subst e
  exact Rs.Same.new h
theorem newE {H H1 : Hp} {q : Addr} {o : HO} (e : L2.upd H q o = H1) : H1 q = some o := by
  subst e
  exact upd_same
end Rs

namespace Rs
open PySem PySem.Spec PyProof.Rows L2
def letters : List Nat := ("abcdefghijklmnopqrstuvwxyz" : Str).cps.toList
def isValue (k : Str) : Key → Bool
  | .inl i => decide (k ≠ "word") && (decide (-999 ≤ i) && decide (i ≤ 999))
  | .inr s => decide (k = "word") && (decide (s.length ≤ 6) && s.cps.toList.all fun c => decide (c ∈ letters))
def isRow (ks : List Str) (r : Row) : Bool := decide (r.length = ks.length) && (List.range ks.length).all fun i => isValue (ks.getD i "") (kcol r i)
structure GoodKinds (ks : List Str) : Prop where
  pos : 1 ≤ ks.length
  le : ks.length ≤ 4
  all : ∀ k ∈ ks, k = "number" ∨ k = "word"
structure GoodOrd (ks : List Str) (o : Ord) : Prop where
  ne : o ≠ []
  col : ∀ t ∈ o, t.1 < ks.length
  nd : (o.map (·.1)).Nodup
theorem isRow_len {ks : List Str} {r : Row} (h : isRow ks r = true) : r.length = ks.length := by
  unfold isRow at h
  simp only [Bool.and_eq_true, decide_eq_true_eq] at h
  exact h.1
theorem isRow_val {ks : List Str} {r : Row} (h : isRow ks r = true) {i : Nat} (hi : i < ks.length) : isValue (ks.getD i "") (kcol r i) = true := by
  unfold isRow at h
  simp only [Bool.and_eq_true, decide_eq_true_eq, List.all_eq_true, List.mem_range] at h
  exact h.2 i hi
theorem Cmp.tail {t : Nat × Bool} {o : Ord} {p q : Row} (h : Cmp (t :: o) p q) : Cmp o p q := fun u hu => h u (List.mem_cons_of_mem _ hu)
theorem Cmp.head {t : Nat × Bool} {o : Ord} {p q : Row} (h : Cmp (t :: o) p q) : (kcol p t.1).isLeft = (kcol q t.1).isLeft := (h t (List.mem_cons_self ..)).2.2
structure Fine (ks : List Str) (xs : List Pr) : Prop where
  row : ∀ p ∈ xs, isRow ks p.2 = true
  nd : (xs.map (·.1)).Nodup
theorem Fine.sub {ks : List Str} {xs ys : List Pr} (h : Fine ks xs) (s : ys.Sublist xs) : Fine ks ys := ⟨fun q hq => h.row q (s.subset hq), h.nd.sublist (s.map (·.1))⟩
theorem Fine.take {ks : List Str} {xs : List Pr} (h : Fine ks xs) (n : Nat) : Fine ks (xs.take n) := h.sub (List.take_sublist _ _)
theorem Fine.drop {ks : List Str} {xs : List Pr} (h : Fine ks xs) (n : Nat) : Fine ks (xs.drop n) := h.sub (List.drop_sublist _ _)
def Up (o : Ord) (xs : List Pr) : Prop := xs.Pairwise fun p q => before o p q = true
end Rs

namespace Rs
open PySem PySem.Spec PyProof.Rows L2
structure Box (H : Hp) (a l : Addr) : Prop where
  ex : ∃ (ns : List Int) (st : Int), H a = some (.lst [.ref l, .int st]) ∧ H l = some (.lst (ns.map V.int)) ∧ 0 ≤ st
theorem Box.ne {H : Hp} {a l : Addr} (b : Box H a l) : a ≠ l := by
  obtain ⟨ns, st, h1, h2, _⟩ := b.ex
  intro e
  subst e
  rw [h1] at h2
  cases ns with
  | nil => cases h2
  | cons n ns => cases h2
theorem Box.keep {H H' : Hp} {a l : Addr} (b : Box H a l) (h1 : ∀ o, H a = some o → H' a = some o) (h2 : ∀ o, H l = some o → H' l = some o) : Box H' a l := by
  obtain ⟨ns, st, e1, e2, h⟩ := b.ex
  exact ⟨ns, st, h1 _ e1, h2 _ e2, h⟩
theorem Box.same {H H' : Hp} {a l : Addr} (b : Box H a l) (s : Same H H') : Box H' a l := b.keep (fun o => s a o) fun o => s l o
theorem Box.tup {H H' : Hp} {a l : Addr} (b : Box H a l) (k : But [a, l] H H') : TupLe H H' := fun c xs e => by
  obtain ⟨ns, st, e1, e2, h⟩ := b.ex
  refine k c _ e ?_
  intro hm
  simp at hm
  rcases hm with rfl | rfl
  · rw [e1] at e; cases e
  · rw [e2] at e; cases e
theorem un {H : Hp} {a p : Addr} {o u : HO} (h : H a = some o) (hp : H p = none) : upd H p u a = some o := by
  rw [upd_ne (ne_of_none h hp)]
  exact h
theorem up {H : Hp} {a p : Addr} {o u : HO} (h : H a = some o) (hp : a ≠ p) : upd H p u a = some o := by
  rw [upd_ne hp]
  exact h
theorem nn {a b c : Addr} (h1 : a ≠ b) (h2 : a ≠ c) : a ∉ [b, c] := by
  intro hm
  simp at hm
  rcases hm with h | h
  · exact h1 h
  · exact h2 h
abbrev N_law_begun : List Str := ["_law_script", "_law_stirred", "_law_cell"]
abbrev P_law_begun : List Str := ["_law_script"]
def sp_law_begun (K : PySem.W.Frag) : Sp := fun vs H Q E => match vs with
  | [s] => ∃ (p : Addr) (ns : List Int), s = .ref p ∧ SqL K H p (ns.map V.int) ∧ ns.length ≤ 63 ∧ ∀ a l H', H a = none → H l = none → Box H' a l → Same H H' → Q (.ref a) H'
  | _ => False
def t_law_begun (K : PySem.W.Frag) (E : XK) : TS := (tSeq (tAsg (tC (.int 0)) (gName 1))
  (tSeq (tFor (iList K (tVar 0)) (gName 2) (tAsg (tOpC xMod (tOpC xAdd (tOp xAdd (tOpC xMul (tVar 1) (.int 48271)) (tOpC xMul (tVar 2) (.int 69621))) (.int 11)) (.int 2147483647)) (gName 1)))
   (tRet (tLst (tCons (tCB1 (xList K) (tVar 0)) (tCons (tOp xMul (tVar 1) (tCB1 xInt (tOpC xGt (tCB1 (xLen K) (tVar 0)) (.int 2)))) tNil))))))
theorem pure_law_begun {K : PySem.W.Frag} : ∀ vs H Q E, sp_law_begun K vs H Q E → t_law_begun K E { nx := fun _ H' => Q .non H', rt := Q } (start N_law_begun vs) H := by
  intro vs H Q E h
  match vs, h with
  | [s], h =>
    obtain ⟨p, ns, rfl, hs, hlen, k⟩ := h
    refine ⟨_, rfl, p, rfl, ⟨_, hs⟩, for_list (K := K) (a := p) (xs := ns.map V.int) (fun i σ H' => ∃ (st : Int) (x2 : Option V), σ = [some (.ref p), some (.int st), x2] ∧ H' = H ∧ 0 ≤ st) ⟨0, none, rfl, rfl, Int.le_refl _⟩ ?_ ?_ ?_⟩
    · rintro i σ H' _ ⟨_, _, _, rfl, _⟩
      exact hs
    · rintro i v σ H' hi ⟨st, x2, rfl, rfl, h0⟩
      rw [List.getElem?_map] at hi
      obtain ⟨n, hn, rfl⟩ := Option.map_eq_some_iff.mp hi
      refine ⟨_, rfl, _, _, rfl, rfl, .inr ⟨by decide, by decide⟩, _, rfl, _, _, rfl, rfl, .inr ⟨by decide, by decide⟩, _, _, rfl, rfl, _, _, rfl, rfl, _, _, rfl, rfl, by show (0 : Int) < 2147483647; decide, ?_⟩
      exact ⟨_, _, rfl, rfl, Int.emod_nonneg _ (by decide)⟩
    · rintro σ H' ⟨st, x2, rfl, rfl, h0⟩
      refine ⟨_, rfl, p, _, rfl, .inl hs, fun l hl => ?_⟩
      have hs1 : SqL K (upd H' l (.lst (ns.map V.int))) p (ns.map V.int) := Same.seq (Rs.Same.new hl) hs
      refine ⟨_, rfl, _, rfl, p, _, rfl, .inl hs1, _, _, rfl, rfl, .inr ⟨_, rfl, ?_⟩⟩
      have hb : ∀ b : Bool, CMul st (if b = true then 1 else 0) := fun b => by cases b <;> exact .inr ⟨by decide, by decide⟩
      refine ⟨_, _, rfl, rfl, hb _, szle (by show 2 ≤ 100000; decide), fun a ha => ?_⟩
      have nal : l ≠ a := ne_of_none upd_same ha
      have hz : ∀ b : Bool, 0 ≤ st * (if b = true then (1 : Int) else 0) := fun b => by cases b <;> simp [h0]
      refine k a l _ (none_of_but (S := []) (But.same (Rs.Same.new hl)) ha (by simp)) hl ⟨ns, _, upd_same, by rw [upd_ne nal]; exact upd_same, hz _⟩ (Same.trans (Rs.Same.new hl) (Rs.Same.new ha))
abbrev N_law_take : List Str := ["_law_box", "_law_many", "_law_number_here"]
abbrev P_law_take : List Str := ["_law_box", "_law_many"]
def sp_law_take (K : PySem.W.Frag) : Sp := fun vs H Q E => match vs with
  | [b, m] => ∃ a l n, b = .ref a ∧ m = .int n ∧ 0 < n ∧ n ≤ 1000000000000000000 ∧ Box H a l ∧ ∀ r H', 0 ≤ r → r < n → Box H' a l → But [a, l] H H' → Q (.int r) H'
  | _ => False
def t_law_take (K : PySem.W.Frag) (E : XK) : TS := (tSeq (tIfS (tTest (tOp (xEqE K) (tOpC (rIxL K) (tVar 0) (.int 0)) (tLst tNil))) 
    (tSeq (tAsg (tOpC xMod (tOpC xMul (tOpC (rIxL K) (tVar 0) (.int 1)) (.int 48271)) (.int 2147483647)) (gSubC (tVar 0) (.int 1) rSetL))
    (tRet (tOp xMod (tOpC xDiv (tOpC (rIxL K) (tVar 0) (.int 1)) (.int 7)) (tVar 1)))) tNext)
  (tSeq (tAsg (tOpC (rIxL K) (tOpC (rIxL K) (tVar 0) (.int 0)) (.int 0)) (gName 2))
   (tSeq (tAsg (tOp xDiv (tVar 2) (tVar 1)) (gSubC (tOpC (rIxL K) (tVar 0) (.int 0)) (.int 0) rSetL))
    (tSeq (tIfS (tOr (tTest (tOpC rEq (tOpC (rIxL K) (tOpC (rIxL K) (tVar 0) (.int 0)) (.int 0)) (.int 0))) (tTest (tOpC rEq (tOpC (rIxL K) (tOpC (rIxL K) (tVar 0) (.int 0)) (.int 0)) (.int (-1))))) (tDrop (tBM K "list" rPopAt (tOpC (rIxL K) (tVar 0) (.int 0)) (tConsC (.int 0) tNil))) tNext)
     (tRet (tOp xMod (tVar 2) (tVar 1)))))))
theorem ixN_zero {n : Nat} : ixN (n + 1) 0 = some 0 := by
  unfold ixN
  rw [if_pos (by omega), if_pos (by omega)]
  rfl
theorem seqIx {n j : Nat} (h : j < n) : seqIndex? (j : Int) n = some j := (ixN_seq (ixN_nat h)).1
theorem div_ok {i j : Int} (h : 0 < j) (h2 : j ≤ 1000000000000000000) : CDivW i j := wide_div (b := 60) h (by omega) (by decide) (by decide)
theorem pure_law_take {K : PySem.W.Frag} : ∀ vs H Q E, sp_law_take K vs H Q E → t_law_take K E { nx := fun _ H' => Q .non H', rt := Q } (start N_law_take vs) H := by
  intro vs H Q E h
  match vs, h with
  | [b, m], h =>
    obtain ⟨a, l, n, rfl, rfl, hn, hn2, B, k⟩ := h
    have nal := B.ne
    obtain ⟨ns, st, ha, hl, h0⟩ := B.ex
    refine ⟨_, rfl, ixL ha (j := 0) rfl rfl ⟨sz0, fun p hp => ?_⟩⟩
    have ha1 : upd H p (.lst []) a = _ := un ha hp
    have hl1 : upd H p (.lst []) l = _ := un hl hp
    have s1 : But [a, l] H (upd H p (.lst [])) := But.same (Rs.Same.new hp)
    cases ns with
    | nil =>
      refine eqE hl hp (b := true) rfl ⟨_, rfl, ?_⟩
      refine ⟨_, rfl, ixL ha1 (j := 1) rfl rfl ⟨_, _, rfl, rfl, .inr ⟨by decide, by decide⟩, _, _, rfl, rfl, by show (0 : Int) < 2147483647; decide, ?_⟩⟩
      refine ⟨_, rfl, _, _, _, 1, rfl, rfl, ha1, rfl, ?_⟩
      refine ⟨_, rfl, ixL (j := 1) upd_same rfl rfl ⟨_, _, rfl, rfl, div_ok (by decide) (by decide), _, rfl, _, _, rfl, rfl, hn, ?_⟩⟩
      exact k _ _ (Int.emod_nonneg _ (by omega)) (Int.emod_lt_of_pos _ hn) ⟨[], _, upd_same, by rw [upd_ne nal.symm]; exact hl1, Int.emod_nonneg _ (by decide)⟩ (s1.put (by simp))
    | cons x ns =>
      refine eqE hl hp (b := false) rfl ⟨_, rfl, ?_⟩
      refine ⟨_, rfl, ixL ha1 (j := 0) rfl rfl (ixL hl1 (j := 0) rfl rfl ?_)⟩
      refine ⟨_, rfl, _, rfl, _, _, rfl, rfl, div_ok hn hn2, ?_⟩
      refine ⟨_, rfl, ixL ha1 (j := 0) rfl rfl ⟨_, _, _, 0, rfl, rfl, hl1, ixN_zero, ?_⟩⟩
      have ha2 : upd (upd H p (.lst [])) l (.lst (((x :: ns).map V.int).set 0 (.int (x / n)))) a = _ := up ha1 nal
      have hl2 : upd (upd H p (.lst [])) l (.lst (((x :: ns).map V.int).set 0 (.int (x / n)))) l = some (.lst (((x / n) :: ns).map V.int)) := upd_same
      have s2 : But [a, l] H (upd (upd H p (.lst [])) l (.lst (((x :: ns).map V.int).set 0 (.int (x / n))))) := s1.put (by simp)
      have fin : ∀ H', Box H' a l → But [a, l] H H' → Q (.int (x % n)) H' := fun H' b' k' => k _ _ (Int.emod_nonneg _ (by omega)) (Int.emod_lt_of_pos _ hn) b' k'
      have pop : ∀ D : Ends, (∀ σ H', Box H' a l → But [a, l] H H' → σ = [some (.ref a), some (.int n), some (.int x)] → D.nx σ H') → tDrop (tBM K "list" rPopAt (tOpC (rIxL K) (tVar 0) (.int 0)) (tConsC (.int 0) tNil)) D [some (.ref a), some (.int n), some (.int x)] (upd (upd H p (.lst [])) l (.lst (((x :: ns).map V.int).set 0 (.int (x / n))))) := fun D hD => by
        refine ⟨_, rfl, ixL ha2 (j := 0) rfl rfl ⟨.inl ⟨rfl, _, SqL.of hl2⟩, _, _, _, 0, _, rfl, rfl, hl2, by decide, by decide, seqIx (Nat.zero_lt_succ _), rfl, ?_⟩⟩
        refine hD _ _ ⟨ns, st, up ha2 nal, upd_same, h0⟩ (s2.put (by simp)) rfl
      refine ⟨_, rfl, ixL ha2 (j := 0) rfl rfl (ixL hl2 (j := 0) rfl rfl ⟨rfl, _, rfl, ?_⟩)⟩
      by_cases e : (V.int (x / n)) = .int 0
      · rw [decide_eq_true e]
        refine pop _ fun σ H' b' k' e' => ?_
        subst e'
        exact ⟨_, rfl, _, rfl, _, _, rfl, rfl, hn, fin _ b' k'⟩
      · rw [decide_eq_false e]
        refine ⟨_, rfl, ixL ha2 (j := 0) rfl rfl (ixL hl2 (j := 0) rfl rfl ⟨rfl, _, rfl, ?_⟩)⟩
        by_cases e' : (V.int (x / n)) = .int (-1)
        · rw [decide_eq_true e']
          refine pop _ fun σ H' b' k' e' => ?_
          subst e'
          exact ⟨_, rfl, _, rfl, _, _, rfl, rfl, hn, fin _ b' k'⟩
        · rw [decide_eq_false e']
          exact ⟨_, rfl, _, rfl, _, _, rfl, rfl, hn, fin _ ⟨(x / n) :: ns, st, ha2, hl2, h0⟩ s2⟩
abbrev N_law_kinds : List Str := ["_law_box", "_law_k"]
abbrev P_law_kinds : List Str := ["_law_box"]
def KindsAt : Rel (List Str) := fun H v ks => IsTp H v (ks.map V.str)
def sp_law_kinds (K : PySem.W.Frag) : Sp := fun vs H Q E => match vs with
  | [b] => ∃ a l, b = .ref a ∧ Box H a l ∧ ∀ v ks H', KindsAt H' v ks → GoodKinds ks → Box H' a l → But [a, l] H H' → Q v H'
  | _ => False
def t_law_kinds (K : PySem.W.Frag) (E : XK) : TS := (tRet (tCB1 (xTuple K) (tLc (iRng1 (tCons (tOpD xAdd (.int 1) (tCall (sp_law_take K) [] E (tCons (tVar 0) (tConsC (.int 4) tNil)))) tNil)) (gName 1) tYes (tOp (rIxL K) (tLst (tConsC (.str "number") (tConsC (.str "word") tNil))) (tCall (sp_law_take K) [] E0 (tCons (tVar 0) (tConsC (.int 2) tNil)))) [1])))
theorem pick2 {r : Int} (h0 : 0 ≤ r) (h1 : r < 2) : r = 0 ∨ r = 1 := by omega
theorem pick_two {K : PySem.W.Frag} {H : Hp} {a l : Addr} {x y : V} {Q : VK} {E : XK} {σ : L2.St} {i : Nat} (hσ : σ[i]? = some (some (.ref a))) (B : Box H a l)
    (k : ∀ z H', (z = x ∨ z = y) → Box H' a l → But [a, l] H H' → Q z H') : tOp (rIxL K) (tLst (tConsC x (tConsC y tNil))) (tCall (sp_law_take K) [] E (tCons (tVar i) (tConsC (.int 2) tNil))) σ H Q := by
  refine ⟨szle (by show 2 ≤ 100000; decide), fun p hp => ?_⟩
  obtain ⟨ns, st, ha, hl, h0⟩ := B.ex
  have B1 : Box (upd H p (.lst [x, y])) a l := B.same (Rs.Same.new hp)
  refine ⟨_, hσ, a, l, _, rfl, rfl, by decide, by decide, B1, fun r H1 h0 h1 B2 k1 => ?_⟩
  have hp1 : H1 p = some (.lst [x, y]) := k1 _ _ upd_same (nn (ne_of_none ha hp).symm (ne_of_none hl hp).symm)
  have kk : But [a, l] H H1 := But.trans (But.same (Rs.Same.new hp)) k1
  rcases pick2 h0 h1 with rfl | rfl
  · exact ixL hp1 (j := 0) rfl rfl (k _ _ (.inl rfl) B2 kk)
  · exact ixL hp1 (j := 1) rfl rfl (k _ _ (.inr rfl) B2 kk)
theorem pure_law_kinds {K : PySem.W.Frag} : ∀ vs H Q E, sp_law_kinds K vs H Q E → t_law_kinds K E { nx := fun _ H' => Q .non H', rt := Q } (start N_law_kinds vs) H := by
  intro vs H Q E h
  match vs, h with
  | [b], h =>
    obtain ⟨a, l, rfl, B, k⟩ := h
    refine ⟨_, rfl, a, l, _, rfl, rfl, by decide, by decide, B, fun r H1 h0 h1 B1 k1 => ⟨_, _, rfl, rfl, _, rfl, by omega, by omega, fun D hD => ?_⟩⟩
    obtain ⟨ns, st, ha, hl, _⟩ := B1.ex
    have nDa := (ne_of_none ha hD).symm
    have nDl := (ne_of_none hl hD).symm
    refine lc_range (lo := 0) (n := (1 + r).toNat) (fun i H' => ∃ ks : List Str, H' D = some (.lst (ks.map V.str)) ∧ ks.length = i ∧ (∀ x ∈ ks, x = "number" ∨ x = "word") ∧ Box H' a l ∧ But [a, l] H H')
      ⟨[], upd_same, rfl, by simp, B1.same (Rs.Same.new hD), k1.new hD⟩ ?_ ?_
    · rintro i H' hi ⟨ks, hd, hlen, hall, B', k'⟩
      refine ⟨rfl, ?_⟩
      refine lc_yes (pick_two (i := 0) rfl B' fun z H2 hz B2 k2 => ?_)
      have hd2 := k2 _ _ hd (nn nDa nDl)
      have fin : ∀ s : Str, z = .str s → (s = "number" ∨ s = "word") → ∃ acc, H2 D = some (.lst acc) ∧ acc.length < sizeLine ∧ ∃ ks : List Str, upd H2 D (.lst (acc ++ [z])) D = some (.lst (ks.map V.str)) ∧ ks.length = i + 1 ∧ (∀ x ∈ ks, x = "number" ∨ x = "word") ∧ Box (upd H2 D (.lst (acc ++ [z]))) a l ∧ But [a, l] H (upd H2 D (.lst (acc ++ [z]))) := fun s es hs => by
        subst es
        have hz0 : H D = none := none_of_but k1 hD (nn nDa nDl)
        exact ⟨_, hd2, szlt (by rw [List.length_map]; omega), ks ++ [s], by rw [upd_same, List.map_append] <;> rfl, by simp [hlen], fun x hx => (List.mem_append.mp hx).elim (hall x) fun hx => by rw [List.mem_singleton.mp hx]; exact hs, B2.keep (fun o e => up e nDa.symm) (fun o e => up e nDl.symm), (k'.trans k2).mut hz0⟩
      rcases hz with rfl | rfl
      · exact fin _ rfl (.inl rfl)
      · exact fin _ rfl (.inr rfl)
    · rintro H' ⟨ks, hd, hlen, hall, B', k'⟩
      refine ⟨_, _, rfl, .inl ⟨SqL.of hd, fun t ht => ?_⟩⟩
      exact k _ ks _ ⟨t, rfl, upd_same⟩ ⟨by omega, by omega, hall⟩ (B'.same (Rs.Same.new ht)) (k'.new ht)
abbrev N_law_order : List Str := ["_law_box", "_law_kinds_here", "_law_left", "_law_found", "_law_turn"]
abbrev P_law_order : List Str := ["_law_box", "_law_kinds_here"]
def sp_law_order (K : PySem.W.Frag) : Sp := fun vs H Q E => match vs with
  | [b, kv] => ∃ a l ks, b = .ref a ∧ Box H a l ∧ KindsAt H kv ks ∧ GoodKinds ks ∧ ∀ f o H', H f = none → Lst TurnAt H' f o → GoodOrd ks o → Box H' a l → But [a, l] H H' → Q (.ref f) H'
  | _ => False
def t_law_order (K : PySem.W.Frag) (E : XK) : TS := (tSeq (tAsg (tLstRg (tRg1 (tCB1 (xLen K) (tVar 1)))) (gName 2))
  (tSeq (tAsg (tLst tNil) (gName 3))
   (tSeq (tFor (iRng1 (tCons (tOpD xAdd (.int 1) (tCall (sp_law_take K) [] E (tCons (tVar 0) (tCons (tCB1 (xLen K) (tVar 1)) tNil)))) tNil)) (gName 4) (tDrop (tBM K "list" rAppend (tVar 3) (tCons (tTup (tCons (tBM K "list" rPopAt (tVar 2) (tCons (tCall (sp_law_take K) [] E (tCons (tVar 0) (tCons (tCB1 (xLen K) (tVar 2)) tNil))) tNil)) (tCons (tOp (rIxL K) (tLst (tConsC (.str "up") (tConsC (.str "down") tNil))) (tCall (sp_law_take K) [] E (tCons (tVar 0) (tConsC (.int 2) tNil)))) tNil))) tNil))))
    (tRet (tVar 3)))))
theorem map_erase {α β : Type} (f : α → β) : ∀ (l : List α) (i : Nat), (l.map f).eraseIdx i = (l.eraseIdx i).map f
  | [], _ => rfl
  | _ :: _, 0 => rfl
  | a :: l, i + 1 => by simpa using map_erase f l i
theorem take_append_erase {α : Type} : ∀ {l : List α} {i : Nat} {x : α}, l[i]? = some x → l.Perm (x :: l.eraseIdx i)
  | [], _, _, h => by simp at h
  | a :: l, 0, x, h => by simp at h; subst h; exact .refl _
  | a :: l, i + 1, x, h => by
    have ih := take_append_erase (l := l) (i := i) (x := x) (by simpa using h)
    exact (ih.cons a).trans (List.Perm.swap x a _)
theorem pure_law_order {K : PySem.W.Frag} : ∀ vs H Q E, sp_law_order K vs H Q E → t_law_order K E { nx := fun _ H' => Q .non H', rt := Q } (start N_law_order vs) H := by
  intro vs H Q E h
  match vs, h with
  | [b, kv], h =>
    obtain ⟨a, l, ks, rfl, B, hk, gk, k⟩ := h
    obtain ⟨ns, st, ha, hl, _⟩ := B.ex
    have g1 := gk.pos
    have g4 := gk.le
    obtain ⟨kt, rfl, hkt⟩ := hk
    refine ⟨_, rfl, _, _, rfl, .inr (SqT.of hkt), _, rfl, RgOk.of_le (by decide) (by rw [List.length_map]; omega) (by decide) (by omega), fun q hq => ?_⟩
    refine ⟨sz0, fun f hf => ?_⟩
    have B0 : Box (upd (upd H q (.lst (rgV 0 ((ks.map V.str).length : Nat)))) f (.lst [])) a l := (B.same (Rs.Same.new hq)).same (Rs.Same.new hf)
    have nqf : q ≠ f := ne_of_none upd_same hf
    have hf0 : H f = none := none_of_but (S := []) (But.same (Rs.Same.new hq)) hf (by simp)
    have qa := (ne_of_none ha hq).symm
    have ql := (ne_of_none hl hq).symm
    have fa := (ne_of_none ha hf0).symm
    have fl := (ne_of_none hl hf0).symm
    have k0 : But [a, l] H (upd (upd H q (.lst (rgV 0 ((ks.map V.str).length : Nat)))) f (.lst [])) := (But.same (Rs.Same.new hq)).new hf
    have kt0 := k0 _ _ hkt (nn (ne_of hkt ha (by intro z; cases z)) (ne_of hkt hl (by intro z; cases z)))
    refine ⟨_, rfl, _, rfl, _, _, rfl, .inr (SqT.of kt0), a, l, _, rfl, rfl, by rw [List.length_map]; omega, by rw [List.length_map]; omega, B0, fun r H1 h0 h1 B1 k1 => ?_⟩
    rw [List.length_map] at h1
    refine ⟨_, _, rfl, rfl, _, rfl, by omega, by omega, ?_⟩
    refine for_range (lo := 0) (n := (1 + r).toNat) (fun i σ H' => ∃ (ls : List Nat) (o : Ord) (x4 : Option V), σ = [some (.ref a), some (.ref kt), some (.ref q), some (.ref f), x4] ∧ H' q = some (.lst (ls.map fun (n : Nat) => V.int (n : Int))) ∧ Lst TurnAt H' f o ∧
      Box H' a l ∧ But [a, l] H H' ∧ (o.map (·.1) ++ ls).Perm (List.range ks.length) ∧ o.length = i) ?_ ?_ ?_
    · refine ⟨List.range ks.length, [], none, rfl, ?_, ⟨[], k1 _ _ upd_same (nn fa fl), .nil⟩, B1, k0.trans k1, by simp, rfl⟩
      rw [k1 q _ (un upd_same hf) (nn qa ql)]
      unfold rgV
      rw [List.length_map]
      simp
    · rintro i σ H' hi ⟨ls, o, x4, rfl, hq', ⟨tv, hf', ht'⟩, B', k', hp, hlen⟩
      have hll : ls.length + i = ks.length := by
        have e := hp.length_eq
        simp at e
        omega
      refine ⟨_, rfl, .inl ⟨rfl, _, SqL.of hf'⟩, _, rfl, .inl ⟨rfl, _, SqL.of hq'⟩, _, rfl, _, rfl, _, _, rfl, .inl (SqL.of hq'), a, l, _, rfl, rfl, by rw [List.length_map]; omega, by rw [List.length_map]; omega, B', fun r2 H2 h20 h21 B2 k2 => ?_⟩
      rw [List.length_map] at h21
      have hq2 := k2 _ _ hq' (nn qa ql)
      have hf2 := k2 _ _ hf' (nn fa fl)
      obtain ⟨j, rfl⟩ : ∃ j : Nat, r2 = (j : Int) := ⟨r2.toNat, by omega⟩
      have hj : j < ls.length := by omega
      refine ⟨_, _, _, j, _, rfl, rfl, hq2, by omega, by omega, seqIx (by rw [List.length_map]; exact hj), by rw [List.getElem?_map, List.getElem?_eq_getElem hj]; rfl, ?_⟩
      have hf3 : upd H2 q (.lst ((ls.map fun (n : Nat) => V.int (n : Int)).eraseIdx j)) f = _ := up hf2 nqf.symm
      have B3 : Box (upd H2 q (.lst ((ls.map fun (n : Nat) => V.int (n : Int)).eraseIdx j))) a l := B2.keep (fun o e => up e qa.symm) (fun o e => up e ql.symm)
      have k3 : But [a, l] H (upd H2 q (.lst ((ls.map fun (n : Nat) => V.int (n : Int)).eraseIdx j))) := (k'.trans k2).mut hq
      have t3 : TupLe H' (upd H2 q (.lst ((ls.map fun (n : Nat) => V.int (n : Int)).eraseIdx j))) := (B'.tup k2).list hq2
      refine pick_two (i := 0) rfl B3 fun z H4 hz B4 k4 => ?_
      have hf4 := k4 _ _ hf3 (nn fa fl)
      have hq4 := k4 _ _ upd_same (nn qa ql)
      have t4 := t3.trans (B3.tup k4)
      refine ⟨szle (by show 2 ≤ 100000; decide), fun t ht => ?_⟩
      have nft := ne_of_none hf4 ht
      have nqt := ne_of_none hq4 ht
      have ol : o.length ≤ 4 := by omega
      refine ⟨_, _, _, rfl, rfl, un hf4 ht, szlt (by have := ht'.length; omega), ?_⟩
      obtain ⟨w, rfl⟩ : ∃ w : Bool, z = .str (wayS w) := by
        rcases hz with rfl | rfl
        · exact ⟨true, rfl⟩
        · exact ⟨false, rfl⟩
      refine ⟨ls.eraseIdx j, o ++ [(ls[j], w)], _, rfl, ?_, ⟨_, upd_same, ?_⟩, (B4.same (Rs.Same.new ht)).keep (fun o e => up e fa.symm) (fun o e => up e fl.symm), ((k3.trans k4).new ht).mut hf0, ?_, by simp [hlen]⟩
      · rw [upd_ne nqf, un hq4 ht, map_erase]
      · refine P2.app (Paired.tl TurnAt.st ((t4.trans (TupLe.new ht)).list (un hf4 ht)) ht') (P2.one ⟨t, rfl, ?_⟩)
        rw [upd_ne nft.symm]
        exact upd_same
      · refine List.Perm.trans ?_ hp
        rw [List.map_append, List.append_assoc]
        exact List.Perm.append_left _ (take_append_erase (List.getElem?_eq_getElem hj)).symm
    · rintro σ H' ⟨ls, o, x4, rfl, hq', hf', B', k', hp, hlen⟩
      refine ⟨_, rfl, k f o H' hf0 hf' ⟨fun e => ?_, fun t ht => ?_, ?_⟩ B' k'⟩
      · subst e
        simp at hlen
        omega
      · have : t.1 ∈ List.range ks.length := hp.mem_iff.mp (List.mem_append_left _ (List.mem_map_of_mem ht))
        exact List.mem_range.mp this
      · exact (List.nodup_append.mp (hp.nodup_iff.mpr List.nodup_range)).1
end Rs

namespace Rs
open PySem PySem.Spec PyProof.Rows L2
abbrev N_need_kinds : List Str := ["kinds", "kind"]
abbrev P_need_kinds : List Str := ["kinds"]
def sp_need_kinds (K : PySem.W.Frag) : Sp := fun vs H Q E => match vs with
  | [kv] => ∃ ks, KindsAt H kv ks ∧ GoodKinds ks ∧ ∀ H', Same H H' → Q .non H'
  | _ => False
def t_need_kinds (K : PySem.W.Frag) (E : XK) : TS := (tIfS (tOr (tNot (tTest (tChain xLe xLe (tC (.int 1)) (tCB1 (xLen K) (tVar 0)) (tC (.int 4))))) (tTest (tOp (xNeE K) (tLc (iTup K (tVar 0)) (gName 1) (tTest (tOp (rIn K true) (tVar 1) (tTup (tConsC (.str "number") (tConsC (.str "word") tNil))))) (tVar 1) [1]) (tLst tNil)))) tNever tNext)
theorem in_two {x s t : Str} : inV (.str x) [.str s, .str t] = (decide (s = x) || decide (t = x)) := by
  unfold inV
  show (eqV (.str s) (.str x) || (eqV (.str t) (.str x) || false)) = _
  rw [Bool.or_false]
  have e : ∀ a b : Str, eqV (.str a) (.str b) = decide (a = b) := fun a b => rfl
  rw [e, e]
theorem pure_need_kinds {K : PySem.W.Frag} : ∀ vs H Q E, sp_need_kinds K vs H Q E → t_need_kinds K E { nx := fun _ H' => Q .non H', rt := Q } (start N_need_kinds vs) H := by
  intro vs H Q E h
  match vs, h with
  | [kv], h =>
    obtain ⟨ks, ⟨kt, rfl, hkt⟩, gk, k⟩ := h
    have g1 := gk.pos
    have g4 := gk.le
    refine ⟨_, rfl, _, _, rfl, .inr (SqT.of hkt), _, _, rfl, rfl, _, rfl, ?_⟩
    rw [List.length_map, decide_eq_true (show (1 : Int) ≤ (ks.length : Int) by omega)]
    refine ⟨_, _, rfl, rfl, _, rfl, ?_⟩
    rw [decide_eq_true (show (ks.length : Int) ≤ 4 by omega)]
    refine ⟨_, rfl, kt, rfl, ⟨_, SqT.of hkt⟩, fun D hD => ?_⟩
    refine lc_tup (K := K) (a := kt) (xs := ks.map V.str) (fun j H2 => H2 D = some (.lst []) ∧ Same H H2) ⟨upd_same, Rs.Same.new hD⟩ ?_ ?_ ?_
    · rintro j H2 _ ⟨_, s⟩
      exact SqT.of (s _ _ hkt)
    · rintro j v H2 hj ⟨hd, s⟩
      rw [List.getElem?_map] at hj
      obtain ⟨kd, hkd, rfl⟩ := Option.map_eq_some_iff.mp hj
      refine ⟨rfl, _, rfl, szle (by show 2 ≤ 100000; decide), fun p hp => ⟨p, _, rfl, .inr (SqT.of upd_same), rfl, rfl, _, rfl, ?_⟩⟩
      have e : inV (.str kd) [.str "number", .str "word"] = true := by
        rw [in_two]
        rcases gk.all kd (List.mem_of_getElem? hkd) with rfl | rfl
        · rw [decide_eq_true rfl]; rfl
        · rw [decide_eq_true (p := ("word" : Str) = "word") rfl, Bool.or_true]
      rw [e]
      exact ⟨un hd hp, s.trans (Rs.Same.new hp)⟩
    · rintro H2 ⟨hd, s⟩
      refine ⟨sz0, fun p hp => neE hd hp (b := false) rfl ⟨_, rfl, ?_⟩⟩
      exact k _ (s.trans (Rs.Same.new hp))
def sp_need_order (K : PySem.W.Frag) : Sp := fun vs H Q E => match vs with
  | [kv, ov] => ∃ ks o, KindsAt H kv ks ∧ LstV TurnAt H ov o ∧ GoodOrd ks o ∧ o.length ≤ 1000 ∧ ∀ H', Same H H' → Q .non H'
  | _ => False
theorem nodup_cast : ∀ {l : List Nat}, l.Nodup → (l.map fun (n : Nat) => (n : Int)).Nodup
  | [], _ => by simp
  | a :: l, h => by
    rw [List.map_cons, List.nodup_cons]
    obtain ⟨h1, h2⟩ := List.nodup_cons.mp h
    refine ⟨fun hm => ?_, nodup_cast h2⟩
    obtain ⟨b, hb, e⟩ := List.mem_map.mp hm
    exact h1 (by have : b = a := by omega
                 rw [← this]; exact hb)
theorem filter_nil_all {α : Type} (p : α → Bool) : ∀ l : List α, (l.filter fun x => !p x).isEmpty = l.all p
  | [] => rfl
  | a :: l => by
    rw [List.filter_cons, List.all_cons]
    cases p a
    · rfl
    · simpa using filter_nil_all p l
def RowSz (r : Row) : Prop := r.length ≤ 1000 ∧ ∀ s, Sum.inr s ∈ r → s.length ≤ 1000
theorem RowSz.of {ks : List Str} {r : Row} (h : isRow ks r = true) (hk : ks.length ≤ 4) : RowSz r := by
  refine ⟨by rw [isRow_len h]; omega, fun s hs => ?_⟩
  obtain ⟨i, hi, e⟩ := List.mem_iff_getElem.mp hs
  have v := isRow_val h (i := i) (by rw [← isRow_len h]; exact hi)
  have ek : kcol r i = .inr s := by
    unfold kcol
    rw [List.getD_eq_getElem?_getD, List.getElem?_eq_getElem hi, e]
    rfl
  rw [ek] at v
  simp only [isValue, Bool.and_eq_true, decide_eq_true_eq] at v
  omega
def mrg (o : Ord) : List Pr → List Pr → List Pr
  | xs, [] => xs
  | xs, y :: ys => (xs.takeWhile fun x => before o x y) ++ y :: mrg o (xs.dropWhile fun x => before o x y) ys
theorem cut_from {xs : List V} {n : Nat} (h : n ≤ xs.length) : cutV xs (some (n : Int)) none = xs.drop n := by
  unfold cutV
  rw [HT.sIx_nat, HT.sIx_none, Nat.min_eq_left h]
  exact List.take_of_length_le (by rw [List.length_drop]; exact Nat.le_refl _)
theorem cut_to {xs : List V} {n : Nat} (h : n ≤ xs.length) : cutV xs none (some (n : Int)) = xs.take n := by
  unfold cutV
  rw [HT.sIx_nat, HT.sIx_none, Nat.min_eq_left h, List.drop_zero]
  rfl
end Rs

namespace Rs
open PySem PySem.Spec PyProof.Rows L2
theorem Fine.left {ks : List Str} {xs ys : List Pr} (h : Fine ks (xs ++ ys)) : Fine ks xs := h.sub (List.sublist_append_left _ _)
end Rs

namespace Rs
open PySem PySem.Spec PyProof.Rows L2
structure TxtRoom (K : PySem.W.Frag) : Prop where
  cl : Cls K (He.ga K "Room")
  n_order : NoAttr K (He.ga K "Room") "order"
  n_cells : NoAttr K (He.ga K "Room") "cells"
def f_Room (x0 x1 : V) : List (Str × V) := [(("order" : Str), x0), (("cells" : Str), x1)]
def RoomOb (K : PySem.W.Frag) (H : Hp) (p : Addr) (x0 x1 : V) : Prop := ∃ dx, H p = some (.ins (He.ga K "Room") dx (f_Room x0 x1))
section
variable {K : PySem.W.Frag} {x0 x1 y : V} {H : Hp} {Q : VK} {p : Addr} {D : Ends} {σ : L2.St}
end
structure TxtMaker (K : PySem.W.Frag) : Prop where
  cl : Cls K (He.ga K "Maker")
  n_order : NoAttr K (He.ga K "Maker") "order"
  n_size : NoAttr K (He.ga K "Maker") "size"
  n_room : NoAttr K (He.ga K "Maker") "room"
  n_run : NoAttr K (He.ga K "Maker") "run"
  n_last : NoAttr K (He.ga K "Maker") "last"
def f_Maker (x0 x1 x2 x3 x4 : V) : List (Str × V) := [(("order" : Str), x0), (("size" : Str), x1), (("room" : Str), x2), (("run" : Str), x3), (("last" : Str), x4)]
def MakerOb (K : PySem.W.Frag) (H : Hp) (p : Addr) (x0 x1 x2 x3 x4 : V) : Prop := ∃ dx, H p = some (.ins (He.ga K "Maker") dx (f_Maker x0 x1 x2 x3 x4))
section
variable {K : PySem.W.Frag} {x0 x1 x2 x3 x4 y : V} {H : Hp} {Q : VK} {p : Addr} {D : Ends} {σ : L2.St}
end
section
variable {α : Type} {d : α} {cs : List α} {i j k : Nat}
theorem getD_lt (hi : i < cs.length) : cs.getD i d = cs[i] := by
  rw [List.getD_eq_getElem?_getD, List.getElem?_eq_getElem hi]
  rfl
end
section
variable {α : Type} {ok : α → Prop} {lt : α → α → Bool} {d : α}
end
abbrev Cell := Int × Pr
def c0 : Cell := (0, 0, [])
end Rs

namespace Rs
open PySem PySem.Spec PyProof.Rows L2
def CellAt : Rel Cell := fun H v c => ∃ w, IsTp H v [.int c.1, w] ∧ PairAt H w c.2
theorem CellAt.st : Stable CellAt := fun _ _ _ _ t ⟨w, a, b⟩ => ⟨w, a.mono t, PairAt.st _ _ _ _ t b⟩
structure RoomS (K : PySem.W.Frag) (H : Hp) (p lo lc : Addr) (o : Ord) (cs : List Cell) : Prop where
  ob : RoomOb K H p (.ref lo) (.ref lc)
  ord : Lst TurnAt H lo o
  cells : Lst CellAt H lc cs
  ne : lo ≠ lc
theorem RoomOb.keep {K : PySem.W.Frag} {H H' : Hp} {p : Addr} {x y : V} (h : RoomOb K H p x y) (k : ∀ o, H p = some o → H' p = some o) : RoomOb K H' p x y := let ⟨dx, e⟩ := h; ⟨dx, k _ e⟩
theorem RoomOb.same {K : PySem.W.Frag} {H H' : Hp} {p : Addr} {x y : V} (h : RoomOb K H p x y) (s : Same H H') : RoomOb K H' p x y := h.keep fun o => s p o
theorem RoomS.same {K : PySem.W.Frag} {H H' : Hp} {p lo lc : Addr} {o : Ord} {cs : List Cell} (h : RoomS K H p lo lc o cs) (s : Same H H') : RoomS K H' p lo lc o cs := ⟨h.ob.same s, h.ord.same TurnAt.st s, h.cells.same CellAt.st s, h.ne⟩
theorem Lst.cell {α : Type} {R : Rel α} {H : Hp} {l : Addr} {xs : List α} (h : Lst R H l xs) {i : Nat} {x : α} (e : xs[i]? = some x) : ∃ vs v, H l = some (.lst vs) ∧ vs[i]? = some v ∧ R H v x := by
  obtain ⟨vs, a, b⟩ := h
  obtain ⟨v, hv, r⟩ := P2.get' b e
  exact ⟨vs, v, a, hv, r⟩
end Rs

namespace Rs
open PySem PySem.Spec PyProof.Rows L2
end Rs

namespace Rs
open PySem PySem.Spec PyProof.Rows L2
def OptAt : Rel (Option Pr) := fun H v q => match q with
  | none => v = .non
  | some p => PairAt H v p
theorem OptAt.st : Stable OptAt := fun H H' v q t h => match q, h with
  | none, h => h
  | some p, h => PairAt.st H H' v p t h
structure MakerS (K : PySem.W.Frag) (H : Hp) (p lo pr lc : Addr) (o : Ord) (size : Int) (cs : List Cell) (run : Int) (last : Option Pr) : Prop where
  ob : ∃ vl, MakerOb K H p (.ref lo) (.int size) (.ref pr) (.int run) vl ∧ OptAt H vl last
  room : RoomS K H pr lo lc o cs
  ne : p ≠ pr
theorem MakerOb.keep {K : PySem.W.Frag} {H H' : Hp} {p : Addr} {x0 x1 x2 x3 x4 : V} (h : MakerOb K H p x0 x1 x2 x3 x4) (k : ∀ o, H p = some o → H' p = some o) : MakerOb K H' p x0 x1 x2 x3 x4 := let ⟨dx, e⟩ := h; ⟨dx, k _ e⟩
theorem MakerS.same {K : PySem.W.Frag} {H H' : Hp} {p lo pr lc : Addr} {o : Ord} {size : Int} {cs : List Cell} {run : Int} {last : Option Pr} (h : MakerS K H p lo pr lc o size cs run last) (s : Same H H') : MakerS K H' p lo pr lc o size cs run last := by
  obtain ⟨vl, ob, hl⟩ := h.ob
  exact ⟨⟨vl, ob.keep fun u => s p u, OptAt.st _ _ _ _ (TupLe.same s) hl⟩, h.room.same s, h.ne⟩
theorem MakerS.tup {K : PySem.W.Frag} {H H' : Hp} {p lo pr lc : Addr} {o : Ord} {size : Int} {cs : List Cell} {run : Int} {last : Option Pr} (h : MakerS K H p lo pr lc o size cs run last) (k : But [p, lc] H H') : TupLe H H' := fun c xs e => by
  obtain ⟨vl, ⟨dx, e1⟩, _⟩ := h.ob
  obtain ⟨vs, e2, _⟩ := h.room.cells
  exact k c _ e (nn (ne_of e e1 (by intro z; cases z)) (ne_of e e2 (by intro z; cases z)))
def late (o : Ord) (q : Pr) (last : Option Pr) : Bool := match last with
  | none => false
  | some l => before o q l
end Rs

namespace Rs
open PySem PySem.Spec PyProof.Rows L2
def srt (o : Ord) : List Pr → List Pr
  | [] => []
  | x :: xs => mrg o [x] (srt o xs)
def mn (o : Ord) (xs : List Pr) : Pr := (srt o xs).getD 0 c0.2
def outN (n : Int) (xs : List Pr) : List Pr := xs.filter fun q => decide (q.1 ≠ n)
def fillL (o : Ord) (size : Int) (last : Option Pr) : List Pr → List Pr → List Pr → List Pr × List Pr × List Pr
  | [], h, l => ([], h, l)
  | p :: left, h, l => if ((h.length : Int) + (l.length : Int) < size) then (if late o p last then fillL o size last left h (l ++ [p]) else fillL o size last left (h ++ [p]) l) else (p :: left, h, l)
def inner (o : Ord) (size : Int) : Nat → List Pr → List Pr → List Pr → List Pr → List Pr × List Pr × List Pr
  | 0, left, _, l, run => (left, l, run)
  | n + 1, left, h, l, run =>
    if (fillL o size run.getLast? left h l).2.1 = [] then ((fillL o size run.getLast? left h l).1, (fillL o size run.getLast? left h l).2.2, run)
    else inner o size n (fillL o size run.getLast? left h l).1 (outN (mn o (fillL o size run.getLast? left h l).2.1).1 (fillL o size run.getLast? left h l).2.1) (fillL o size run.getLast? left h l).2.2 (run ++ [mn o (fillL o size run.getLast? left h l).2.1])
def outer (o : Ord) (size : Int) : Nat → List Pr → List Pr → List (List Pr) → List (List Pr)
  | 0, _, _, found => found
  | n + 1, left, l, found => if left = [] ∧ l = [] then found else
    outer o size n (inner o size (left.length + l.length + 1) left l [] []).1 (inner o size (left.length + l.length + 1) left l [] []).2.1 (found ++ [(inner o size (left.length + l.length + 1) left l [] []).2.2])
end Rs

namespace Rs
open PySem PySem.Spec PyProof.Rows L2
def cells (k : Int) (h l : List Pr) : List Cell := h.map (fun q => (k, q)) ++ l.map fun q => (k + 1, q)
def turnD (t : Nat × Bool) : PyData := .tuple [.int (t.1 : Int), .str (wayS t.2)]
section
variable {K : PySem.W.Frag} {H : Hp}
theorem dpAll {α : Type} {R : Rel α} {f : α → PyData} (hf : ∀ v x, R H v x → Dp K H v (f x)) : ∀ {vs : List V} {xs : List α}, Paired (R H) vs xs → DpAll K H vs (xs.map f)
  | _, _, .nil => .nil
  | _, _, .cons h t => .cons (hf _ _ h) (dpAll hf t)
theorem turn_dp {v : V} {t : Nat × Bool} (h : TurnAt H v t) : Dp K H v (turnD t) := by
  obtain ⟨a, rfl, e⟩ := h
  exact .tup (SqT.of e) (.cons (.int _) (.cons (.str _) .nil))
theorem lst_dp {α : Type} {R : Rel α} {f : α → PyData} (hf : ∀ v x, R H v x → Dp K H v (f x)) {l : Addr} {xs : List α} (h : Lst R H l xs) : Dp K H (.ref l) (.list (xs.map f)) := by
  obtain ⟨vs, e, p⟩ := h
  exact .lst (SqL.of e) (dpAll hf p)
end
def okD : Nat → PyData → Prop
  | 0, _ => False
  | _ + 1, .none => True
  | _ + 1, .bool _ => True
  | _ + 1, .int _ => True
  | _ + 1, .str x => PyData.strOk x = true
  | n + 1, .list ds => ds.length ≤ 100000 ∧ ∀ d ∈ ds, okD n d
  | n + 1, .tuple ds => ds.length ≤ 100000 ∧ ∀ d ∈ ds, okD n d
  | _ + 1, _ => False
theorem okD.up : ∀ {n : Nat} {d : PyData}, okD n d → okD (n + 1) d
  | 0, _, h => h.elim
  | n + 1, .none, _ => trivial
  | n + 1, .bool _, _ => trivial
  | n + 1, .int _, _ => trivial
  | n + 1, .str _, h => h
  | n + 1, .list ds, h => ⟨h.1, fun d hd => okD.up (h.2 d hd)⟩
  | n + 1, .tuple ds, h => ⟨h.1, fun d hd => okD.up (h.2 d hd)⟩
theorem okD.ups {n : Nat} {d : PyData} (h : okD n d) : ∀ k, okD (n + k) d
  | 0 => h
  | k + 1 => okD.up (okD.ups h k)
theorem list_ok {α : Type} {f : α → PyData} {xs : List α} {n : Nat} (h : xs.length ≤ 100000) (hf : ∀ x ∈ xs, okD n (f x)) : okD (n + 1) (.list (xs.map f)) := ⟨by rw [List.length_map]; exact h, fun d hd => by
  obtain ⟨x, hx, rfl⟩ := List.mem_map.mp hd
  exact hf x hx⟩
mutual
theorem okD.lay : ∀ (n : Nat) (d : PyData), okD n d → d.canLay0 = true ∧ d.depth ≤ n
  | 0, _, h => h.elim
  | n + 1, .none, _ => ⟨rfl, by simp [PyData.depth]⟩
  | n + 1, .bool _, _ => ⟨rfl, by simp [PyData.depth]⟩
  | n + 1, .int _, _ => ⟨rfl, by simp [PyData.depth]⟩
  | n + 1, .str _, h => ⟨h, by simp [PyData.depth]⟩
  | n + 1, .list ds, h => by
    have := okD.layAll n ds h.2
    simp [PyData.canLay0, PyData.depth, this.1]
    omega
  | n + 1, .tuple ds, h => by
    have := okD.layAll n ds h.2
    simp [PyData.canLay0, PyData.depth, this.1]
    omega
theorem okD.layAll : ∀ (n : Nat) (ds : List PyData), (∀ d ∈ ds, okD n d) → PyData.canLayAll0 ds = true ∧ PyData.depthAll ds ≤ n
  | n, [], _ => ⟨rfl, by simp [PyData.depthAll]⟩
  | n, d :: ds, h => by
    have h1 := okD.lay n d (h d (List.mem_cons_self ..))
    have h2 := okD.layAll n ds fun e he => h e (List.mem_cons_of_mem _ he)
    simp [PyData.canLayAll0, PyData.depthAll, h1.1, h2.1]
    omega
end
theorem okD.shaped {n : Nat} {d : PyData} (h : okD n d) (hn : n ≤ 64) : SeqAt.shaped d = true := by
  have q := okD.lay n d h
  unfold SeqAt.shaped
  rw [q.1, decide_eq_true (Nat.le_trans q.2 hn)]
  rfl
theorem okD.eqv {n : Nat} {d : PyData} (h : okD n d) : PyData.eqv d d = true := SeqAt.eqv_refl d (okD.lay n d h).1
end Rs

namespace Rs
open PySem PySem.Spec PyProof.Rows L2
def RunAt (H0 : Hp) (S : List Addr) : Rel (List Pr) := fun H v xs => ∃ l, v = .ref l ∧ H0 l = none ∧ l ∉ S ∧ Lst PairAt H l xs
section
variable {H0 H H' : Hp} {S S' : List Addr} {v : V} {xs : List Pr} {x l lf : Addr} {found : List (List Pr)}
theorem RunAt.keep (h : RunAt H0 S H v xs) (t : TupLe H H') (k : ∀ l, H0 l = none → l ∉ S → ∀ o, H l = some o → H' l = some o) : RunAt H0 S H' v xs := let ⟨l, e, a, b, c⟩ := h; ⟨l, e, a, b, c.keep PairAt.st t (k l a b)⟩
theorem RunAt.sub (h : RunAt H0 S H v xs) (k : ∀ y ∈ S', y ∈ S) : RunAt H0 S' H v xs := let ⟨l, e, a, b, c⟩ := h; ⟨l, e, a, fun z => b (k _ z), c⟩
theorem RunAt.new (h : RunAt H0 S H v xs) (hx : H x = none) : RunAt H0 (x :: S) H v xs := by
  obtain ⟨l, e, a, b, c⟩ := h
  refine ⟨l, e, a, fun z => ?_, c⟩
  obtain ⟨vs, q, _⟩ := c
  rcases List.mem_cons.mp z with z | z
  · rw [z, hx] at q; cases q
  · exact b z
theorem Runs.sub (h : Lst (RunAt H0 S) H lf found) (k : ∀ y ∈ S', y ∈ S) : Lst (RunAt H0 S') H lf found := let ⟨vs, a, b⟩ := h; ⟨vs, a, P2.mono (fun _ _ q => q.sub k) b⟩
theorem Runs.new (h : Lst (RunAt H0 S) H lf found) (hx : H x = none) : Lst (RunAt H0 (x :: S)) H lf found := let ⟨vs, a, b⟩ := h; ⟨vs, a, P2.mono (fun _ _ q => q.new hx) b⟩
theorem Runs.same (h : Lst (RunAt H0 S) H lf found) (s : Same H H') : Lst (RunAt H0 S) H' lf found := let ⟨vs, a, b⟩ := h; ⟨vs, s _ _ a, P2.mono (fun _ _ q => q.keep (TupLe.same s) fun l _ _ => s l) b⟩
theorem Runs.put {ys : List V} {u : HO} (h : Lst (RunAt H0 S) H lf found) (hx : H x = some (.lst ys)) (hs : x ∈ S) (n : lf ≠ x) : Lst (RunAt H0 S) (upd H x u) lf found := let ⟨vs, a, b⟩ := h; ⟨vs, up a n, P2.mono (fun _ _ q => q.keep ((TupLe.refl H).list hx) fun l _ hl o e => up e fun z => hl (by rw [z]; exact hs)) b⟩
theorem Lst.off {ys : List V} {u : HO} (h : Lst PairAt H l xs) (hx : H x = some (.lst ys)) (n : l ≠ x) : Lst PairAt (upd H x u) l xs := h.keep PairAt.st ((TupLe.refl H).list hx) fun o e => up e n
theorem Lst.on {ys vs : List V} (hx : H l = some (.lst ys)) (p : Paired (PairAt H) vs xs) : Lst PairAt (upd H l (.lst vs)) l xs := ⟨vs, upd_same, Paired.tl PairAt.st ((TupLe.refl H).list hx) p⟩
end
structure LR (H0 H : Hp) (a b c d e : Addr) (left here late : List Pr) (found : List (List Pr)) (run : List Pr) : Prop where
  same : Same H0 H
  fr : ∀ x ∈ [a, b, c, d, e], H0 x = none
  nd : [a, b, c, d, e].Nodup
  la : Lst PairAt H a left
  lb : Lst PairAt H b here
  lc : Lst PairAt H c late
  ld : Lst (RunAt H0 [a, b, c, d, e]) H d found
  le : Lst PairAt H e run
section
variable {H0 H H' : Hp} {a b c d e : Addr} {left here late left' here' late' : List Pr} {found : List (List Pr)} {run run' : List Pr} {vs : List V}
theorem nd5 (h : [a, b, c, d, e].Nodup) : ((a ≠ b ∧ a ≠ c ∧ a ≠ d ∧ a ≠ e) ∧ (b ≠ c ∧ b ≠ d ∧ b ≠ e) ∧ (c ≠ d ∧ c ≠ e) ∧ d ≠ e) := by simpa using h
theorem LR.on (L : LR H0 H a b c d e left here late found run) (s : Same H H') : LR H0 H' a b c d e left here late found run := ⟨L.same.trans s, L.fr, L.nd, L.la.same PairAt.st s, L.lb.same PairAt.st s, L.lc.same PairAt.st s, Runs.same L.ld s, L.le.same PairAt.st s⟩
theorem LR.pb (L : LR H0 H a b c d e left here late found run) (p : Paired (PairAt H) vs here') : LR H0 (upd H b (.lst vs)) a b c d e left here' late found run := by
  obtain ⟨⟨ab, ac, ad, ae⟩, ⟨bc, bd, be⟩, ⟨cd, ce⟩, de⟩ := nd5 L.nd
  obtain ⟨ys, hx, _⟩ := L.lb
  exact ⟨Rs.Same.mut L.same (L.fr _ (by simp)), L.fr, L.nd, L.la.off hx ab, Lst.on hx p, L.lc.off hx bc.symm, Runs.put L.ld hx (by simp) bd.symm, L.le.off hx be.symm⟩
theorem LR.pe (L : LR H0 H a b c d e left here late found run) (p : Paired (PairAt H) vs run') : LR H0 (upd H e (.lst vs)) a b c d e left here late found run' := by
  obtain ⟨⟨ab, ac, ad, ae⟩, ⟨bc, bd, be⟩, ⟨cd, ce⟩, de⟩ := nd5 L.nd
  obtain ⟨ys, hx, _⟩ := L.le
  exact ⟨Rs.Same.mut L.same (L.fr _ (by simp)), L.fr, L.nd, L.la.off hx ae, L.lb.off hx be, L.lc.off hx ce, Runs.put L.ld hx (by simp) de, Lst.on hx p⟩
end
end Rs

namespace Rs
open PySem PySem.Spec PyProof.Rows L2
theorem KindsAt.st : Stable KindsAt := fun _ _ _ _ t h => IsTp.mono t h
theorem KindsAt.same {H H' : Hp} {v : V} {ks : List Str} (h : KindsAt H v ks) (s : Same H H') : KindsAt H' v ks := KindsAt.st _ _ _ _ (TupLe.same s) h
end Rs

namespace Rs
open PySem PySem.Spec PyProof.Rows L2
structure EX (K : PySem.W.Frag) (H0 H : Hp) (p lo pr lc a d e : Addr) (o : Ord) (size : Int) (cs : List Cell) (k : Int) (last : Option Pr) (left : List Pr) (found : List (List Pr)) (run : List Pr) : Prop where
  same : Same H0 H
  fr : ∀ x ∈ [p, lc, a, d, e], H0 x = none
  nd : [lc, a, d, e].Nodup
  mm : MakerS K H p lo pr lc o size cs k last
  la : Lst PairAt H a left
  ld : Lst (RunAt H0 [lc, a, d, e]) H d found
  le : Lst PairAt H e run
section
variable {K : PySem.W.Frag} {H0 H H' : Hp} {p lo pr lc a d e : Addr} {o : Ord} {size : Int} {cs cs' : List Cell} {k k' : Int} {last last' : Option Pr} {left left' : List Pr} {found : List (List Pr)} {run run' : List Pr} {vs : List V}
theorem nd4 (h : [lc, a, d, e].Nodup) : ((lc ≠ a ∧ lc ≠ d ∧ lc ≠ e) ∧ (a ≠ d ∧ a ≠ e) ∧ d ≠ e) := by simpa using h
theorem MakerS.nl (M : MakerS K H p lo pr lc o size cs k last) {x : Addr} {ys : List V} (h : H x = some (.lst ys)) : x ≠ p ∧ x ≠ pr := by
  obtain ⟨vl, ⟨dx, e⟩, _⟩ := M.ob
  obtain ⟨dr, e2⟩ := M.room.ob
  exact ⟨ne_of h e (by intro z; cases z), ne_of h e2 (by intro z; cases z)⟩
theorem EX.on (L : EX K H0 H p lo pr lc a d e o size cs k last left found run) (s : Same H H') : EX K H0 H' p lo pr lc a d e o size cs k last left found run := ⟨L.same.trans s, L.fr, L.nd, L.mm.same s, L.la.same PairAt.st s, Runs.same L.ld s, L.le.same PairAt.st s⟩
theorem MakerS.put (M : MakerS K H p lo pr lc o size cs k last) (s0 : Same H0 H) {x : Addr} {ys vs : List V} (h : H x = some (.lst ys)) (n1 : x ≠ lc) (n2 : x ≠ lo) : MakerS K (upd H x (.lst vs)) p lo pr lc o size cs k last := by
  have t : TupLe H (upd H x (.lst vs)) := (TupLe.refl H).list h
  obtain ⟨vl, ob, hv⟩ := M.ob
  obtain ⟨xp, xr⟩ := M.nl h
  exact ⟨⟨vl, ob.keep fun u e => up e xp.symm, OptAt.st _ _ _ _ t hv⟩, ⟨M.room.ob.keep fun u e => up e xr.symm, M.room.ord.keep TurnAt.st t fun u e => up e n2.symm, M.room.cells.keep CellAt.st t fun u e => up e n1.symm, M.room.ne⟩, M.ne⟩
theorem EX.pe (L : EX K H0 H p lo pr lc a d e o size cs k last left found run) (n : e ≠ lo) (q : Paired (PairAt H) vs run') : EX K H0 (upd H e (.lst vs)) p lo pr lc a d e o size cs k last left found run' := by
  obtain ⟨⟨q1, q2, q3⟩, ⟨q4, q5⟩, q6⟩ := nd4 L.nd
  obtain ⟨ys, hx, _⟩ := L.le
  exact ⟨Rs.Same.mut L.same (L.fr _ (by simp)), L.fr, L.nd, L.mm.put L.same hx q3.symm n, L.la.off hx q5, Runs.put L.ld hx (by simp) q6, Lst.on hx q⟩
end
end Rs

namespace Rs
open PySem PySem.Spec PyProof.Rows L2
abbrev N_law_alike : List Str := ["_law_found", "_law_due", "_law_k"]
abbrev P_law_alike : List Str := ["_law_found", "_law_due"]
def okA : Nat → PyData → Prop
  | 0, _ => False
  | _ + 1, .none => True
  | _ + 1, .bool _ => True
  | _ + 1, .int _ => True
  | _ + 1, .str _ => True
  | n + 1, .list ds => ds.length ≤ 100000 ∧ ∀ d ∈ ds, okA n d
  | n + 1, .tuple ds => ds.length ≤ 100000 ∧ ∀ d ∈ ds, okA n d
  | _ + 1, _ => False
theorem okD.a : ∀ {n : Nat} {d : PyData}, okD n d → okA n d
  | 0, _, h => h.elim
  | n + 1, .none, _ => trivial
  | n + 1, .bool _, _ => trivial
  | n + 1, .int _, _ => trivial
  | n + 1, .str _, _ => trivial
  | n + 1, .list ds, h => ⟨h.1, fun d hd => okD.a (h.2 d hd)⟩
  | n + 1, .tuple ds, h => ⟨h.1, fun d hd => okD.a (h.2 d hd)⟩
theorem okA.up : ∀ {n : Nat} {d : PyData}, okA n d → okA (n + 1) d
  | 0, _, h => h.elim
  | n + 1, .none, _ => trivial
  | n + 1, .bool _, _ => trivial
  | n + 1, .int _, _ => trivial
  | n + 1, .str _, _ => trivial
  | n + 1, .list ds, h => ⟨h.1, fun d hd => okA.up (h.2 d hd)⟩
  | n + 1, .tuple ds, h => ⟨h.1, fun d hd => okA.up (h.2 d hd)⟩
theorem okA.ups {n : Nat} {d : PyData} (h : okA n d) : ∀ k, okA (n + k) d
  | 0 => h
  | k + 1 => okA.up (okA.ups h k)
theorem okA.to {n m : Nat} {d : PyData} (h : okA n d) (l : n ≤ m) : okA m d := by
  have := h.ups (m - n)
  rwa [show n + (m - n) = m by omega] at this
def spr_law_alike (K : PySem.W.Frag) (n : Nat) : Sp := fun vs H Q E => match vs with
  | [x, y] => ∃ d, okA n d ∧ Dp K H x d ∧ Dp K H y d ∧ Q (.bl true) H
  | _ => False
abbrev sp_law_alike (K : PySem.W.Frag) : Sp := spr_law_alike K 45
theorem len_law_alike (K : PySem.W.Frag) : ∀ d vs H Q E, spr_law_alike K d vs H Q E → vs.length = 2 := fun d vs H Q E h => by
  unfold spr_law_alike at h
  match vs, h with
  | [_, _], _ => rfl
theorem no_law_alike (K : PySem.W.Frag) : ∀ vs H Q E, ¬ spr_law_alike K 0 vs H Q E := fun vs H Q E h => by
  unfold spr_law_alike at h
  match vs, h with
  | [_, _], ⟨d, h, _⟩ => exact h
def t_law_alike (K : PySem.W.Frag) (sp : Sp) (E : XK) : TS := (tSeq (tIfS (tTest (tOpC rIsN (tVar 1) .non)) (tRet (tOpC rIsN (tVar 0) .non)) tNext)
  (tSeq (tIfS (tB (tIsi K "bool" (tVar 1))) (tRet (tAndV (tIsi K "bool" (tVar 0)) (tOp rEq (tVar 0) (tVar 1)))) tNext)
   (tSeq (tIfS (tB (tIsi K "int" (tVar 1))) (tRet (tAndV (tIsi K "int" (tVar 0)) (tAndV (tNotV (tIsi K "bool" (tVar 0))) (tOp rEq (tVar 0) (tVar 1))))) tNext)
    (tSeq (tIfS (tB (tIsi K "str" (tVar 1))) (tRet (tAndV (tIsi K "str" (tVar 0)) (tOp rEq (tVar 0) (tVar 1)))) tNext)
     (tSeq (tIfS (tOr (tTest (tOp rNe (tIsi K "tuple" (tVar 1)) (tIsi K "tuple" (tVar 0)))) (tTest (tOp rNe (tIsi K "list" (tVar 1)) (tIsi K "list" (tVar 0))))) (tRet (tC (.bl false))) tNext)
      (tSeq (tIfS (tTest (tOp rNe (tCB1 (xLen K) (tVar 0)) (tCB1 (xLen K) (tVar 1)))) (tRet (tC (.bl false))) tNext)
       (tSeq (tFor (iRng1 (tCons (tCB1 (xLen K) (tVar 1)) tNil)) (gName 2) 
          (tIfS (tNot (tB (tCall sp [] E (tCons (tOp (rIx K) (tVar 0) (tVar 2)) (tCons (tOp (rIx K) (tVar 1) (tVar 2)) tNil))))) (tRet (tC (.bl false))) tNext))
        (tRet (tC (.bl true))))))))))
theorem tyL {K : PySem.W.Frag} {H : Hp} {a : Addr} {xs : List V} (h : SqL K H a xs) : TyX K H (.ref a) (.type "list") := by
  rcases h with (h | ⟨o, h⟩) | ⟨o, its, n, h, c, _⟩
  · exact .base (.lst h)
  · exact .base (.frz h)
  · exact .kList h c
theorem tyT {K : PySem.W.Frag} {H : Hp} {a : Addr} {xs : List V} (h : SqT K H a xs) : TyX K H (.ref a) (.type "tuple") := by
  rcases h with (h | ⟨o, h⟩) | ⟨o, its, n, h, c, _⟩
  · exact .base (.tup h)
  · exact .fTuple h
  · exact .kTuple h c
theorem dpAll_len {K : PySem.W.Frag} {H : Hp} : ∀ {vs : List V} {ds : List PyData}, DpAll K H vs ds → vs.length = ds.length
  | _, _, .nil => rfl
  | _, _, .cons _ t => by rw [List.length_cons, List.length_cons, dpAll_len t]
theorem dpAll_get {K : PySem.W.Frag} {H : Hp} : ∀ {vs : List V} {ds : List PyData}, DpAll K H vs ds → ∀ {i : Nat} {d : PyData}, ds[i]? = some d → ∃ v, vs[i]? = some v ∧ Dp K H v d
  | _, _, .nil, _, _, e => by simp at e
  | _, _, .cons h t, 0, d, e => by simp at e; subst e; exact ⟨_, rfl, h⟩
  | _, _, .cons h t, i + 1, d, e => by simpa using dpAll_get t (i := i) (by simpa using e)
theorem pure_law_alike {K : PySem.W.Frag} (d : Nat) : ∀ vs H Q E, spr_law_alike K (d + 1) vs H Q E → t_law_alike K (spr_law_alike K d) E { nx := fun _ H' => Q .non H', rt := Q } (start N_law_alike vs) H := by
  intro vs H Q E h
  unfold spr_law_alike at h
  match vs, h with
  | [x, y], ⟨z, ok, hx, hy, k⟩ =>
    -- two rows of items
    have tail : ∀ (a b : Addr) (xs ys : List V) (ds : List PyData), (SqL K H a xs ∨ SqT K H a xs) → (SqL K H b ys ∨ SqT K H b ys) → DpAll K H xs ds → DpAll K H ys ds → ds.length ≤ 100000 → (∀ e ∈ ds, okA d e) →
        ((tSeq (tIfS (tTest (tOp rNe (tCB1 (xLen K) (tVar 0)) (tCB1 (xLen K) (tVar 1)))) (tRet (tC (.bl false))) tNext)
          (tSeq (tFor (iRng1 (tCons (tCB1 (xLen K) (tVar 1)) tNil)) (gName 2) (tIfS (tNot (tB (tCall (spr_law_alike K d) [] E (tCons (tOp (rIx K) (tVar 0) (tVar 2)) (tCons (tOp (rIx K) (tVar 1) (tVar 2)) tNil))))) (tRet (tC (.bl false))) tNext))
            (tRet (tC (.bl true))))) : TS) { nx := fun _ H' => Q .non H', rt := Q } [some (.ref a), some (.ref b), none] H := by
      intro a b xs ys ds ha hb dx dy hl hok
      have lx := dpAll_len dx
      have ly := dpAll_len dy
      refine ⟨_, rfl, a, xs, rfl, ha, _, rfl, b, ys, rfl, hb, rfl, _, rfl, ?_⟩
      have e : (!decide (V.int (xs.length : Int) = V.int (ys.length : Int))) = false := by rw [lx, ly]; simp
      rw [e]
      refine ⟨_, rfl, b, ys, rfl, hb, _, rfl, by omega, by omega, ?_⟩
      refine for_range (lo := 0) (n := (ys.length : Int).toNat) (fun i σ H' => H' = H ∧ ∃ x2, σ = [some (.ref a), some (.ref b), x2]) ⟨rfl, none, rfl⟩ ?_ ?_
      · rintro i σ H' hi ⟨rfl, x2, rfl⟩
        have hid : i < ds.length := by omega
        have hd := List.getElem?_eq_getElem hid
        obtain ⟨vx, gx, px⟩ := dpAll_get dx hd
        obtain ⟨vy, gy, py⟩ := dpAll_get dy hd
        have ix : ∀ {a : Addr} {xs : List V} {v : V} {Q : VK}, (SqL K H' a xs ∨ SqT K H' a xs) → xs[i]? = some v → Q v H' → rIx K (.ref a) (.int (0 + (i : Int))) H' Q := fun h g q => by
          rcases h with h | h
          · exact .inl ⟨_, _, _, _, rfl, rfl, h, at_of (j := i) (by omega) g, q⟩
          · exact .inr (.inl ⟨_, _, _, _, rfl, rfl, h, at_of (j := i) (by omega) g, q⟩)
        refine ⟨_, rfl, _, rfl, ix ha gx ⟨_, rfl, _, rfl, ix hb gy ?_⟩⟩
        exact ⟨ds[i], hok _ (List.getElem_mem hid), px, py, _, rfl, rfl, _, rfl⟩
      · rintro σ H' ⟨rfl, x2, rfl⟩
        exact k
    cases hx with
    | non =>
      cases hy
      exact ⟨_, rfl, rfl, _, rfl, _, rfl, rfl, k⟩
    | bl b =>
      cases hy
      refine ⟨_, rfl, rfl, _, rfl, _, rfl, isi_go (t := "bool") (b := true) (.base (.bl b)) (by decide +kernel) ⟨_, rfl, _, rfl, isi_go (t := "bool") (b := true) (.base (.bl b)) (by decide +kernel) ⟨_, rfl, _, rfl, _, rfl, rfl, ?_⟩⟩⟩
      rw [decide_eq_true rfl]
      exact k
    | int b =>
      cases hy
      refine ⟨_, rfl, rfl, _, rfl, _, rfl, isi_go (t := "int") (b := false) (.base (.int b)) (by decide +kernel) ⟨_, rfl, _, rfl, isi_go (t := "int") (b := true) (.base (.int b)) (by decide +kernel) ⟨_, rfl, _, rfl, isi_go (t := "int") (b := true) (.base (.int b)) (by decide +kernel) ⟨_, rfl, _, rfl, isi_go (t := "int") (b := false) (.base (.int b)) (by decide +kernel) ⟨_, rfl, _, rfl, _, rfl, _, rfl, rfl, ?_⟩⟩⟩⟩⟩
      rw [decide_eq_true rfl]
      exact k
    | str b =>
      cases hy
      refine ⟨_, rfl, rfl, _, rfl, _, rfl, isi_go (t := "str") (b := false) (.base (.str b)) (by decide +kernel) ⟨_, rfl, _, rfl, isi_go (t := "str") (b := false) (.base (.str b)) (by decide +kernel) ⟨_, rfl, _, rfl, isi_go (t := "str") (b := true) (.base (.str b)) (by decide +kernel) ⟨_, rfl, _, rfl, isi_go (t := "str") (b := true) (.base (.str b)) (by decide +kernel) ⟨_, rfl, _, rfl, _, rfl, rfl, ?_⟩⟩⟩⟩⟩
      rw [decide_eq_true rfl]
      exact k
    | @lst a xs ds sx dx =>
      cases hy with
      | @lst b ys _ sy dy =>
        obtain ⟨hl, hok⟩ : ds.length ≤ 100000 ∧ ∀ e ∈ ds, okA d e := ok
        refine ⟨_, rfl, rfl, _, rfl, _, rfl, isi_go (t := "list") (b := false) (tyL sy) (by decide +kernel) ⟨_, rfl, _, rfl, isi_go (t := "list") (b := false) (tyL sy) (by decide +kernel) ⟨_, rfl, _, rfl, isi_go (t := "list") (b := false) (tyL sy) (by decide +kernel) ⟨_, rfl, ?_⟩⟩⟩⟩
        refine ⟨_, rfl, isi_go (t := "list") (b := false) (tyL sy) (by decide +kernel) ⟨_, rfl, isi_go (t := "list") (b := false) (tyL sx) (by decide +kernel) ⟨rfl, _, rfl, _, rfl, isi_go (t := "list") (b := true) (tyL sy) (by decide +kernel) ⟨_, rfl, isi_go (t := "list") (b := true) (tyL sx) (by decide +kernel) ⟨rfl, _, rfl, ?_⟩⟩⟩⟩⟩
        exact tail a b xs ys ds (.inl sx) (.inl sy) dx dy hl hok
    | @tup a xs ds sx dx =>
      cases hy with
      | @tup b ys _ sy dy =>
        obtain ⟨hl, hok⟩ : ds.length ≤ 100000 ∧ ∀ e ∈ ds, okA d e := ok
        refine ⟨_, rfl, rfl, _, rfl, _, rfl, isi_go (t := "tuple") (b := false) (tyT sy) (by decide +kernel) ⟨_, rfl, _, rfl, isi_go (t := "tuple") (b := false) (tyT sy) (by decide +kernel) ⟨_, rfl, _, rfl, isi_go (t := "tuple") (b := false) (tyT sy) (by decide +kernel) ⟨_, rfl, ?_⟩⟩⟩⟩
        refine ⟨_, rfl, isi_go (t := "tuple") (b := true) (tyT sy) (by decide +kernel) ⟨_, rfl, isi_go (t := "tuple") (b := true) (tyT sx) (by decide +kernel) ⟨rfl, _, rfl, _, rfl, isi_go (t := "tuple") (b := false) (tyT sy) (by decide +kernel) ⟨_, rfl, isi_go (t := "tuple") (b := false) (tyT sx) (by decide +kernel) ⟨rfl, _, rfl, ?_⟩⟩⟩⟩⟩
        exact tail a b xs ys ds (.inr sx) (.inr sy) dx dy hl hok
end Rs

namespace Rs
open PySem PySem.Spec PyProof.Rows L2
theorem Box.fresh {H : Hp} {a l x : Addr} (B : Box H a l) (h : H x = none) : x ∉ [a, l] := by
  obtain ⟨ns, z, e1, e2, _⟩ := B.ex
  exact nn (ne_of_none e1 h).symm (ne_of_none e2 h).symm
theorem GoodOrd.len {ks : List Str} {o : Ord} (g : GoodOrd ks o) (h : ks.length ≤ 4) : o.length ≤ 4 := by
  have nd := g.nd
  have sub : (o.map (·.1)) ⊆ List.range ks.length := fun x hx => by
    obtain ⟨t, ht, rfl⟩ := List.mem_map.mp hx
    exact List.mem_range.mpr (g.col t ht)
  have := nd.length_le_of_subset sub
  rw [List.length_map, List.length_range] at this
  omega
end Rs

namespace Rs
open PySem PySem.Spec PyProof.Rows L2
section
variable {X : Cx} {W : WX} {E : XK} {k : Nat} {ps : List Str} {sp : Sp} {x m : Str} {e : Expr} {es : List Expr} {t : TA} {p p2 pos pos2 : Pos} {j : Nat}
theorem ps_raiseE (c : PySem.W.excIn X.K (He.ga X.K x) He.veBase "ValueError.__new__" = true ∧ PySem.W.keepIn X.K (.ref (He.ga X.K x)) = true ∧ PySem.W.subIn X.K (.ref (He.ga X.K x)) (.type "BaseException") = some true ∧ PySem.W.typeIn X.K (.ref (He.ga X.K x)) = some (.type "type"))
    (gC : X.mg x = some (.ref (He.ga X.K x))) (hg : Gl X x) (hc : X.calm = true) (tk : Takes X (fun cls d _ H => E cls d H)) (hdb : (x == ("__debug__" : Str)) = false := by decide) :
    PS X (.Raise (some (.Call (.Name x p) [.Constant (.str m) j p2] [] pos)) none pos2) (tRaise E (.ref (He.ga X.K x))) :=
  ps_raise hc tk (pmk_own PySem.F.excBase_ValueError c.1 gC c.2.1 (raises_own c.2.2.1 c.2.2.2) hg hdb)
end
section
variable {X : Cx} {E : XK} {x : Str} {body suite : List Stmt} {b₀ : Stmt} {np pos pos' : Pos} {tb : WX → TS} {ts : TS}
end
end Rs

namespace Rs
open PySem PySem.Spec PyProof.Rows L2 LamX
section
variable {P : Program} {w : World} {K : PySem.W.Frag} {mg : Str → Option Value} {base : Heap}
abbrev cxP (P : Program) (w : World) (K : PySem.W.Frag) (mg : Str → Option Value) (base : Heap) (N : List Str) (ql : Str) (sc : Scope) (g : Addr) (cd : Value) (A : Around) (outer : List Env) (z : Shared) (H : Hp) (a : Addr) (oe : Obj) : Cx :=
  L2H.cxH CX0 P w K mg base N ql sc g cd A outer z H E0 (a, oe)
theorem warm_call {k : Nat} {g : Addr} {nm ql : Str} {pr : Arguments} {bd : List Stmt} {sc : Scope} {dV kV doc pm cdv ct oc : Value} {an od : Option Addr} {osl : Array (Option Value)} {N : List Str} {y : Str} {A : Around} {outer : List Env} {z : Shared} {H : Hp} {Q : VK} {a : Addr} {oe : Obj} {t : TS}
    (lk : K.lookup g = some ⟨oc, od, .func (PySem.W.fnOf nm ql pr bd sc dV kV doc pm an cdv ct), osl⟩) (hcd : PySem.W.codeIn K cdv ql = true) (S : FnScope N [y] sc) (hr : L2H.RoomH (k + 1) A) (e0 : Env0 P w K mg base A outer z H) (hpin : L2H.PinOk outer H z (a, oe))
    (hb : BindsTo z (PySem.W.fnOf nm ql pr bd sc dV kV doc pm an cdv ct) ⟨[.ref a], []⟩ [(y, .ref a)]) (hbody : PSs (cxP P w K mg base N ql sc g cdv A outer z H a oe) bd t) (hq : t { nx := fun _ H' => Q .non H', rt := Q } (L2.start N [.ref a]) H) :
    codeAny (model P w) A (.call (.ref g) ⟨[.ref a], []⟩) (CR CX0 outer P w H z Q E0) z := by
  have KZ : K.In z.heap := e0.mod.kin.keeps fun b o e => (e0.bs b o e).1
  have lm : z.heap.NoLimit := e0.mod.nolimit.keeps fun b o e => (e0.bs b o e).1
  have hk : ∀ n ∈ [(y, Value.ref a)], sc.names.lookup n.1 = some .local ∨ (sc.names.lookup n.1 = some .cell ∧ ((cellsFrom (z.heap.objs.size + 1) sc.names []).lookup n.1).isSome = true) := fun n hn => by
    have en : n = (y, Value.ref a) := by simpa using hn
    rw [en]
    rcases S.par y (by simp) with q | q
    · exact .inl q
    · exact .inr ⟨q, PySem.W.cellsFrom_some _ _ _ (.inl q)⟩
  refine codeAny_call_function hr.depth (KZ _ _ lk) rfl S.co S.gen rfl (PySem.W.codeRec_of KZ hcd) (hb _ _ _ _ (wpAny_newFunctionEnv_cells S.kind hk fun env he z1 x => ?_))
  subst he
  refine ⟨lm.keeps x.toInCall.keep, codeAny_func (wpAny_mono (hbody.run [] z1 (L2.start N [.ref a]) H _ (L2H.inv_startH (us := [.ref a]) (vs := [.ref a]) S hpin e0 rfl (.cons rfl .nil) x) hq) (fun fl z' hs => ?_) fun e z' hs => hs)⟩
  cases fl with
  | ret u =>
    obtain ⟨v, σ', H', J, rv, q⟩ := hs
    exact ⟨v, H', J.os, J.bare, J.base, J.hok, rv, q⟩
  | next =>
    obtain ⟨σ', H', J, q⟩ := hs
    exact ⟨.non, H', J.os, J.bare, J.base, J.hok, rfl, q⟩
  | brk => exact hs.elim fun _ h => h.elim fun _ h => h.2.elim
  | cont => exact hs.elim fun _ h => h.elim fun _ h => h.2.elim
end
section
variable {prog : Program} {w : World} {A : Around} {E : Value → Shared → Prop} {z : Shared} {K : PySem.W.Frag} {p D : Addr} {op : Obj} {od : Option Obj}
open PySem.W PySem.Calls in
theorem found_class (C : ExcC K D) : findObj K D od "__class__" = some (.bind (.builtin "getset_descriptor.__get__") (.builtin "object.__class__")) := by
  obtain ⟨cd, hc, _⟩ := any_some C.hd
  have e1 := C.ha
  have e2 := C.hn
  have e3 := C.ht
  unfold findObj
  rw [hc, Option.bind_some, e1, Option.bind_some]
  simp [e2, e3]
open PySem.W PySem.Calls in
theorem ask_class {Q : Option Value → Shared → Prop} (C : ExcC K D) (KI : K.In z.heap) (J : InstAt z.heap p op D od) (q : Q (some (.ref D)) { z with toks := z.toks + 1 }) : wpAny (model prog w) A (getAttr? (.ref p) "__class__") Q E z := by
  have fo := found_class (od := od) C
  obtain ⟨hp, gs, dr, tk, ou⟩ := z
  have a0 := J.type (M := model prog w)
  have a1 := looks_findIn (M := model prog w) KI C.hg
  have a2 := looks_findIn (M := model prog w) KI C.hk
  have a3 := looks_find (M := model prog w) KI J fo
  have up : Looks (model prog w) hp (isInstance (.ref p) (.type "BaseException")) true := a0.andThen (looks_subIn KI C.hs)
  have no : (Value.builtin "BaseException.__getattribute__" == Value.builtin "object.__getattribute__") = false := by decide +kernel
  have no2 : (onTheHeap (Value.ref D) && Value.builtin "BaseException.__getattribute__" == Value.builtin "object.__getattribute__") = false := by rw [no]; rfl
  unfold getAttr?
  unfold getAttrBy? getAttrBy
  refine wpAny_bind (wpAny_mkText (wpAny_bind (wpAny_attempt (wpAny_holding (wpAny_bind (a0.at (wpAny_bind (a1.at ?_))))))))
  show wpAny _ _ (if (onTheHeap (Value.ref D) && Value.builtin "BaseException.__getattribute__" == Value.builtin "object.__getattribute__") = true then _ else _) _ _ _
  rw [no2, if_neg Bool.false_ne_true]
  unfold getAttrByItsOwn
  unfold hookBefore
  refine wpAny_bind ?_
  rw [if_pos (show onTheHeap (.ref D) = true from rfl)]
  refine a2.at (wpAny_bind (wpAny_attempt (wpAny_holding ?_)))
  unfold callGetattribute
  rw [show (false && onTheHeap (Value.builtin "BaseException.__getattribute__")) = false from rfl, if_neg Bool.false_ne_true]
  unfold boundAndCalled
  rw [PySem.F.excAttr_ValueError.ga.bind (.ref p)]
  refine wpAny_bind (wpAny_pure (wpAny_call (codeAny_call_builtin PySem.F.excAttr_ValueError.ga.plain PySem.F.entry_bexc_ga ?_)))
  refine @check_slot (model prog w) _ _ ⟨hp, gs, dr, tk + 1, ou⟩ "BaseException.__getattribute__" "BaseException" "__getattribute__" (.ref p) [.str "__class__" tk] [] _ (by decide +kernel) (by decide +kernel) up (PySem.F.args_bexc_ga (.ref p) (.str "__class__" tk)) ?_
  delta Builtin.«object.__getattribute__»
  refine wpAny_bind (wpAny_of_eq (a := ((Value.ref p : Value), [Value.str "__class__" tk])) (by first | rfl | (simp only [slotArgs]; rfl)) ?_)
  refine wpAny_bind (wpAny_pure (wpAny_bind (a0.at (wpAny_bind (a3.at ?_)))))
  refine wpAny_bind (wpAny_holding (wpAny_call (class_get (s := ⟨hp, gs, dr, tk + 1, ou⟩) (ox := op) (od := od) KI J C.hm ?_)))
  refine wpAny_pure ?_
  refine (show wpAny _ _ (handedOut (Value.ref D)) _ _ _ from ?_)
  rw [handedOut_of (v := Value.ref D) rfl]
  first
    | exact wpAny_pure (wpAny_pure q)
    | exact wpAny_pure q
    | exact wpAny_pure (wpAny_bind (wpAny_pure (wpAny_pure q)))
open PySem.W PySem.Calls in
theorem kit_err (C : ExcC K D) : KitX K (.ref p) (.ref D) (fun h => InstAt h p op D od) := by
  have base := handS_kitx_exc (x := p) (ox := op) C.hg C.hk C.hs C.hd C.ha C.hn C.ht C.hm
  exact ⟨fun _ _ _ J => J.type, fun M h KI J => (by
    obtain ⟨cd, hc, _⟩ := any_some C.hd
    unfold clsIn at hc
    split at hc
    · rename_i ho
      intro A' Q' E' z' k q
      unfold isType loadHead
      exact wpAny_bind (wpAny_loadPart (k _ _ (KI _ _ ho)) (wpAny_pure q))
    · cases hc), base.ne, fun KI J q => ask_class C KI J q⟩
end
def DictOk (d : Option Addr) (H : Hp) : Prop := ∀ dd, d = some dd → ∃ fs, H dd = some (.xd fs)
def rIsX (K : PySem.W.Frag) (D a : Addr) (d : Option Addr) : List V → Hp → VK → Prop := fun xs H Q => ∃ (c : V) (cv : Value) (b : Bool), xs = [.ref a, c] ∧ (∀ u, RelV c u → u = cv) ∧ PySem.W.kitOne K (.ref D) cv = some b ∧ DictOk d H ∧ Q (.bl b) H
section
variable {X : Cx} {a D : Addr} {oe : Obj} {pn : List (Addr × Obj)}
theorem pe_gref {x : Str} {p : Pos} (hg : Gl X x) (hm : X.mg x = some (.ref (He.ga X.K x))) (hd : (x == ("__debug__" : Str)) = false := by decide) : PE X (.Name x p) (tC (.ref (He.ga X.K x))) :=
  ⟨fun _ _ _ H _ I h => ld_glob I hg hm ⟨.ref _, H, I, rfl, h⟩ hd⟩
theorem call_isP {d : Option Addr} (C : ExcC X.K D) (hz : Zc (.ref D) d oe) (hf : ∃ vs, oe.data = .fields vs) (hp : (a, oe) ∈ X.pn) : CallR X (.builtin "isinstance") (rIsX X.K D a d) := by
  intro pins z σ H xs us Q I r h
  obtain ⟨c, cv, b, rfl, hcv, e, hd, q⟩ := h
  obtain ⟨u1, ur, rfl, rx, rr⟩ : ∃ u1 ur, us = u1 :: ur ∧ RelV (.ref a) u1 ∧ Vals [c] ur := by
    cases r with
    | cons rx rr => exact ⟨_, _, rfl, rx, rr⟩
  obtain ⟨u2, rfl, rt⟩ : ∃ u2, ur = [u2] ∧ RelV c u2 := by
    cases rr with
    | cons rt r0 =>
      cases r0
      exact ⟨_, rfl, rt⟩
  obtain rfl : u1 = Value.ref a := rx
  obtain rfl := hcv _ rt
  have hget := (I.pin (a, oe) (List.mem_append_left _ hp)).1
  obtain ⟨vs, hv⟩ := hf
  have nc : PySem.W.notCls oe := by unfold PySem.W.notCls; rw [hv] <;> rfl
  obtain ⟨od, J⟩ : ∃ od, PySem.W.InstAt z.heap a oe D od := by
    cases ed : d with
    | none => exact ⟨none, hget, hz.1, nc, by rw [hz.2, ed]; trivial⟩
    | some dd =>
      obtain ⟨fs, hH⟩ := hd dd ed
      have hx : ObjOk X.prog X.w H z.heap dd (.xd fs) := I.hok dd _ hH
      obtain ⟨mA, hns, _⟩ := hx
      obtain ⟨od, ho, _⟩ := lookIn_ns hns
      exact ⟨some od, hget, hz.1, nc, by rw [hz.2, ed]; exact ho⟩
  exact PySem.W.kia_one (kit_err C) I.kIn J e (fun y => nomatch y) fun tk => ⟨.bl b, H, I.kept (t' := tk) fun _ _ y => y, rfl, q⟩
theorem pe_warm {k : Nat} {g : Addr} {x y : Str} {pr : Arguments} {bd : List Stmt} {sc : Scope} {dV kV doc pm cdv ct oc : Value} {an od : Option Addr} {osl : Array (Option Value)} {N : List Str} {e : Expr} {te : TE} {t : TS} {p pos : Pos}
    (lk : X.K.lookup g = some ⟨oc, od, .func (PySem.W.fnOf x x pr bd sc dV kV doc pm an cdv ct), osl⟩) (hcd : PySem.W.codeIn X.K cdv x = true) (S : FnScope N [y] sc) (hr : L2H.RoomH (k + 1) X.A) (hp : (a, oe) ∈ X.pn)
    (hb : L2.Binds X.K (PySem.W.fnOf x x pr bd sc dV kV doc pm an cdv ct) [y] []) (hg : Gl X x) (hm : X.mg x = some (.ref g)) (hk : PySem.W.keepIn X.K (.ref g) = true)
    (hbody : ∀ (z : Shared) (H : Hp), PSs (cxP X.prog X.w X.K X.mg X.base N x sc g cdv X.A X.stack z H a oe) bd t) (he : PE X e te) (hdb : (x == ("__debug__" : Str)) = false := by decide)
    (hst : starEach [e] X.env = [(false, eval e X.env)] := by rfl) (hpl : (backTo pos (starEach [] X.env)).any (·.1) = false := by rfl) :
    PE X (.Call (.Name x p) [e] [] pos) (fun σ H Q => te σ H fun v H1 => v = .ref a ∧ t { nx := fun _ H' => Q .non H', rt := Q } (L2.start N [.ref a]) H1) := by
  refine ⟨fun pins z σ H Q I h => wpAny_Call_Name_kw (ld_glob I hg hm ?_ hdb)⟩
  let R : List V → Hp → Prop := fun vs H1 => match vs with
    | [v] => v = .ref a ∧ t { nx := fun _ H' => Q .non H', rt := Q } (L2.start N [.ref a]) H1
    | _ => False
  have ha : PA X [e] (tCons te tNil) := pa_cons he pa_nil hst
  refine PySem.W.callWith_K (h₀ := X.base) I.ok.mod.kin hk (thn (ha.run pos pins z σ H R I h) fun us z1 hh => ?_) hst hpl
  obtain ⟨vs, H1, I1, r1, q1⟩ := hh
  cases r1 with
  | nil => exact q1.elim
  | cons rv rr =>
    cases rr with
    | cons _ _ => exact q1.elim
    | nil =>
      obtain ⟨ev, ht⟩ := q1
      subst ev
      obtain rfl := rv
      have pin := I1.pin (a, oe) (List.mem_append_left _ hp)
      have hpin : L2H.PinOk X.stack H1 z1 (a, oe) := ⟨pin.1, pin.2.1, fun hm' => (List.mem_cons.mp (I1.stkSub a hm')).elim pin.2.2.1 pin.2.2.2.1, pin.2.2.2.2⟩
      refine ⟨I1.kIn, wpAny_call (codeAny_mono (warm_call lk hcd S hr I1.env0 hpin (hb z1 [.ref a] I1.kIn rfl) (hbody z1 H1) ht) fun r z2 hq => ?_)⟩
      cases r with
      | error err => exact False.elim hq
      | ok fl =>
        cases fl with
        | ret u => exact I1.after hq
        | next => exact False.elim hq
        | brk => exact False.elim hq
        | cont => exact False.elim hq
end
structure ErrIs (K : PySem.W.Frag) (x : Str) : Prop where
  mem : x ∈ errNames
  c : ExcC K (He.ga K x)
  k : ∀ y ∈ errNames, PySem.W.kitOne K (.ref (He.ga K x)) (.ref (He.ga K y)) = some (decide (x = y))
  v : PySem.W.kitOne K (.ref (He.ga K x)) (.type "ValueError") = some true
  s : PySem.W.exmOne K (.ref (He.ga K x)) (.ref (He.ga K "SortError")) = some true
theorem excCB_ok {K : PySem.W.Frag} {D : Addr} (h : excCB K D = true) : ExcC K D := by
  unfold excCB at h
  simp only [Bool.and_eq_true, decide_eq_true_eq] at h
  obtain ⟨h1, h2, h3, h4, h5, h6, h7, h8⟩ := h
  exact ⟨h1, h2, h3, h4, h5, h6, h7, h8⟩
theorem errB_ok {K : PySem.W.Frag} {x : Str} (h : errB x K = true) : ErrIs K x := by
  unfold errB at h
  simp only [Bool.and_eq_true, decide_eq_true_eq, List.all_eq_true] at h
  obtain ⟨h1, h2, h3, h4, h5⟩ := h
  exact ⟨h1, excCB_ok h2, h3, h4, h5⟩
def ErrNo (K : PySem.W.Frag) (x : Str) (d : Option Addr) (H : Hp) (v : V) : Prop :=
  if x = "BadRuns" ∨ x = "BadRows" ∨ x = "BadText" then ∃ dd fs, XfC K (He.ga K x) ∧ PySem.W.findIn K (.ref (He.ga K x)) (if x = "BadRuns" then ("number" : Str) else "place") = some none ∧ d = some dd ∧ H dd = some (.xd fs) ∧ fs.lookup (if x = "BadRuns" then ("number" : Str) else "place") = some v
  else d = none ∧ v = .int 0
def rErr (K : PySem.W.Frag) (cls : Value) (d : Option Addr) (H : Hp) (Q : VK) : Prop := ∃ x v, cls = .ref (He.ga K x) ∧ ErrIs K x ∧ ErrNo K x d H v ∧
  ∀ p H', H p = none → (∀ b o, H b = some o → H' b = some o) → H' p = some (.tup [.str x, v]) → Q (.ref p) H'
def tWarm (K : PySem.W.Frag) (i : Nat) (a : Addr) (cls : Value) (d : Option Addr) (N : List Str) (t : Addr → Addr → Option Addr → TS) : TE := fun σ H Q => σ[i]? = some (some (.ref a)) ∧ ∃ D, cls = .ref D ∧ ExcC K D ∧ t D a d { nx := fun _ H' => Q .non H', rt := Q } (L2.start N [.ref a]) H
def tErrF (K : PySem.W.Frag) (i : Nat) (a : Addr) (cls : Value) (d : Option Addr) (n : Str) : TE := fun σ H Q => σ[i]? = some (some (.ref a)) ∧ ∃ C dd fs v, cls = .ref C ∧ XfC K C ∧ PySem.W.findIn K (.ref C) n = some none ∧ d = some dd ∧ H dd = some (.xd fs) ∧ fs.lookup n = some v ∧ Q v H
structure WarmFn (P : Program) (w : World) (K : PySem.W.Frag) (mg : Str → Option Value) (base : Heap) (x : Str) (N : List Str) (t : Addr → Addr → Option Addr → TS) : Prop where
  ex : ∃ (y : Str) (g : Addr) (pr : Arguments) (bd : List Stmt) (sc : Scope) (dV kV doc pm cdv ct oc : Value) (an od : Option Addr) (osl : Array (Option Value)),
    K.lookup g = some ⟨oc, od, .func (PySem.W.fnOf x x pr bd sc dV kV doc pm an cdv ct), osl⟩ ∧ PySem.W.codeIn K cdv x = true ∧ FnScope N [y] sc ∧ L2.Binds K (PySem.W.fnOf x x pr bd sc dV kV doc pm an cdv ct) [y] [] ∧ mg x = some (.ref g) ∧ PySem.W.keepIn K (.ref g) = true ∧
    ∀ (D a : Addr) (d : Option Addr) (oe : Obj), ExcC K D → Zc (.ref D) d oe → (∃ vs, oe.data = .fields vs) → ∀ (A : Around) (outer : List Env) (z : Shared) (H : Hp), PSs (cxP P w K mg base N x sc g cdv A outer z H a oe) bd (t D a d)
section
variable {X : Cx} {a : Addr} {cls : Value} {d : Option Addr} {oe : Obj} {pn : List (Addr × Obj)} {i : Nat} {n : Str} {p p2 pos : Pos}
theorem pe_warmV {k : Nat} {x : Str} {N : List Str} {t : Addr → Addr → Option Addr → TS} (F : WarmFn X.prog X.w X.K X.mg X.base x N t) (hr : L2H.RoomH (k + 1) X.A) (hp : (a, oe) ∈ X.pn) (hz : Zc cls d oe) (hf : ∃ vs, oe.data = .fields vs) (hg : Gl X x) (he : PE X (.Name n p2) (tVar i))
    (hdb : (x == ("__debug__" : Str)) = false := by decide) (hst : starEach [.Name n p2] X.env = [(false, eval (.Name n p2) X.env)] := by rfl) (hpl : (backTo pos (starEach [] X.env)).any (·.1) = false := by rfl) :
    PE X (.Call (.Name x p) [.Name n p2] [] pos) (tWarm X.K i a cls d N t) := by
  refine ⟨fun pins z σ H Q I h => ?_⟩
  obtain ⟨h1, D, rfl, C, ht⟩ := h
  obtain ⟨y, g, pr, bd, sc, dV, kV, doc, pm, cdv, ct, oc, an, od, osl, lk, hcd, S, hb, hm, hk, hbody⟩ := F.ex
  exact (pe_warm (t := t D a d) lk hcd S hr hp hb hg hm hk (fun z H => hbody D a d oe C hz hf _ _ z H) he hdb hst hpl).run pins z σ H Q I ⟨_, h1, rfl, ht⟩
theorem pe_errF (hz : Zc cls d oe) (hf : ∃ vs, oe.data = .fields vs) (he : PE (X.suite a ((a, oe) :: pn)) (.Name n p2) (tVar i)) {f : Str} (hb : attributeBase (.Name n p2) f X.env (eval (.Name n p2) X.env) = eval (.Name n p2) X.env := by rfl) :
    PE (X.suite a ((a, oe) :: pn)) (.Attribute (.Name n p2) f pos) (tErrF X.K i a cls d f) := by
  refine ⟨fun pins z σ H Q I h => ?_⟩
  obtain ⟨h1, C, dd, fs, v, rfl, hx, hn, hd, hH, hl, q⟩ := h
  exact (pe_xf hx hn hz hf he hb).run pins z σ H Q I ⟨_, h1, rfl, rfl, dd, fs, v, hd, hH, hl, q⟩
theorem pss_len {b : List Stmt} {t : TS} (h : PSs X b t) : PSs X b (fun D σ H => σ.length = X.N.length → t D σ H) := ⟨fun pins s σ H D I hh => h.run pins s σ H D I (hh I.len)⟩
end
def TTold (K : PySem.W.Frag) : (XK → Hp → VK → Prop) → Hp → VK → Prop := fun tl H Q => tl (fun cls d H' => rErr K cls d H' Q) H Q
theorem told_does {X : Cx} {Ng : List Str} {x y e n q : Str} {sg : Scope} {g : Addr} {cdg : Value} {b₀ : Stmt} {suite : List Stmt} {ts : Addr → Value → Option Addr → TS} {p1 p2 p3 p4 p7 p8 : Pos} (hge : sg.names.lookup e = some .globalImplicit) (hme : X.mg e = some (.ref (He.ga X.K "SortError"))) (hde : (e == ("__debug__" : Str)) = false)
    (nd : Ng.Nodup) (hi : Ng[1]? = some n) (hln : sg.names.lookup n = some .local) (h0 : ∀ f : Addr, (L2.start Ng [V.ref f])[0]? = some (some (V.ref f)))
    (hsu : ∀ (s : Shared) (H : Hp) (a : Addr) (oe : Obj) (cls : Value) (d : Option Addr) (pn : List (Addr × Obj)), Zc cls d oe → (∃ vs, oe.data = .fields vs) → PSs ((cxOf C8.CX0 X.prog X.w X.K X.mg X.base Ng x sg g cdg X.A X.stack s H C8.E0).nox.suite a ((a, oe) :: pn)) (b₀ :: suite) (ts a cls d))
    (hp : ∀ (a : Addr) (cls : Value) (d : Option Addr) (H : Hp) (Q : VK) (D : Ends) (σ : L2.St), rErr X.K cls d H Q → D.rt = Q → σ.length = Ng.length → ts a cls d D (σ.set 1 (some (.ref a))) H) :
    GivesTo X Ng x sg g cdg [.Try [.Return (some (.Call (.Name y p1) [] [] p2)) p3] [.ExceptHandler (some (.Name e p4)) (some n) (b₀ :: suite) p7] [] [] p8] y q (TTold X.K) := by
  intro f c' s H Q tl act hc h
  have hgl : Gl (cxOf C8.CX0 X.prog X.w X.K X.mg X.base Ng x sg g cdg X.A X.stack s H C8.E0).nox e := hge
  refine ⟨_, pss_one (ps_try_as (X := (cxOf C8.CX0 X.prog X.w X.K X.mg X.base Ng x sg g cdg X.A X.stack s H C8.E0).nox) (c := .ref (He.ga X.K "SortError")) (i := 1)
      (ts := fun a cls d D σ H => σ.length = Ng.length → ts a cls d D σ H)
      (tb := fun W D σ H => ∃ Ech : XK, (∀ cls d σ' H', Ech cls d H' → W cls d σ' H') ∧ σ[0]? = some (some (.ref f)) ∧ H c' = some (CodeO c' q) ∧ tl Ech H D.rt)
      rfl rfl nd hi hln ⟨hgl, hde, .inl hme⟩ LamX.takes0 (fun W pn xe tk _ => ?_) (fun a oe cls d pn hz hf => pss_len (hsu s H a oe cls d pn hz hf))), ?_⟩
  · refine ⟨fun pins z σ H' D I h' => ?_⟩
    obtain ⟨Ech, hW, h1, h2, h3⟩ := h'
    exact (pss_one (ps_ret (pos := p3) (act W pn xe Ech p1 p2 tk hW))).run pins z σ H' D I ⟨h1, h2, h3⟩
  · refine ⟨fun cls d H' => rErr X.K cls d H' Q, fun cls d σ' H' hx => ?_, h0 f, hc, h⟩
    obtain ⟨z, v, rfl, E, r⟩ := id hx
    exact ⟨true, E.s, fun _ a _ hl => hp a _ d H' Q _ σ' hx rfl (by simpa using hl), fun z => nomatch z⟩
abbrev Lams : Type := List (He.Defn × Str)
def tabs (T : Lams) (K : PySem.W.Frag) : List (Addr × Str) := T.map fun p => ((He.cT K p.1).2, p.2)
structure TabF (K : PySem.W.Frag) (mg : Str → Option Value) (base : Heap) (T : Lams) : Prop where
  tb : ∀ p ∈ T, TabB base mg (He.cT K p.1).1 (He.cT K p.1).2
  nd : ((tabs T K).map (·.1)).Nodup
theorem uniq_of : ∀ {T : List (Addr × Str)} {c : Addr} {q : Str}, (T.map (·.1)).Nodup → (c, q) ∈ T → ∀ p ∈ T, p.1 = c → p.2 = q
  | [], _, _, _, h => nomatch h
  | z :: r, c, q, nd, h => fun p hp e => by
    rw [List.map_cons, List.nodup_cons] at nd
    rcases List.mem_cons.mp h with e1 | h1
    · rcases List.mem_cons.mp hp with e2 | h2
      · rw [e2, ← e1]
      · exact (nd.1 (List.mem_map.mpr ⟨p, h2, by rw [e, ← e1]⟩)).elim
    · rcases List.mem_cons.mp hp with e2 | h2
      · exact (nd.1 (List.mem_map.mpr ⟨_, h1, by rw [← e2, e]⟩)).elim
      · exact uniq_of nd.2 h1 p h2 e
structure ToldFn (P : Program) (w : World) (K : PySem.W.Frag) (mg : Str → Option Value) (base : Heap) (x : Str) : Prop where
  ex : ∃ (Ng : List Str) (y : Str) (g : Addr) (pr : Arguments) (bd : List Stmt) (sc : Scope) (dV kV doc pm cdv ct oc : Value) (an od : Option Addr) (osl : Array (Option Value)),
    K.lookup g = some ⟨oc, od, .func (PySem.W.fnOf x x pr bd sc dV kV doc pm an cdv ct), osl⟩ ∧ PySem.W.codeIn K cdv x = true ∧ L2.Binds K (PySem.W.fnOf x x pr bd sc dV kV doc pm an cdv ct) [y] [] ∧ FnScope Ng [y] sc ∧ Ng[0]? = some y ∧ Vis sc y ∧
    mg x = some (.ref g) ∧ PySem.W.keepIn K (.ref g) = true ∧ (y == ("__debug__" : Str)) = false ∧ (y == ("__classdict__" : Str)) = false ∧
    ∀ (X : Cx), X.prog = P → X.w = w → X.K = K → X.mg = mg → X.base = base → Room 2 X.A → ∀ q, GivesTo X Ng x sc g cdv bd y q (TTold K)
section
variable {X : Cx}
theorem pe_told {T : Lams} {p0 : He.Defn} {x : Str} {k : Nat} {params : Arguments} {body : Expr} {scope : Scope} {t : XK → TE} {p lpos pos : Pos} (F : ToldFn X.prog X.w X.K X.mg X.base x) (TF : TabF X.K X.mg X.base T) (hmT : (p0, X.env.qual ++ "<lambda>") ∈ T) (hcode : X.env.code = .ref (He.codeOf X.K p0)) (hg : Gl X x) (hr : Room (k + 2) X.A)
    (L : lamSB X.env.scope scope = true) (hdef : defaultsOf params X.env = ([], []))
    (hbind : ∀ (q : Str) (cl : List (Str × Addr)) (pm cv ctv : Value), bindArgs (PySem.W.kla_fn "<lambda>" q params body scope cl pm cv ctv) ⟨[], []⟩ = pure [])
    (hbody : ∀ (A : Around) (outer : List Env) (s : Shared) (H : Hp) (E : XK) (f c' : Addr), Room k (A.deeper (lamEnv X scope s.heap.objs.size f c')) → PE (lamCx X A outer s H E scope f c') body (t E))
    (hdb : (x == ("__debug__" : Str)) = false := by decide) :
    PE X (.Call (.Name x p) [.Lambda params body scope lpos] [] pos) (tLam (tabs T X.K) (TTold X.K) t) := by
  obtain ⟨Ng, y, g, pr, bd, sc, dV, kV, doc, pm, cdv, ct, oc, an, od, osl, lk, hcd, hb, S, hN, hv, hm, hk, h1, h2, hG⟩ := F.ex
  have mT : ((He.cT X.K p0).2, X.env.qual ++ "<lambda>") ∈ tabs T X.K := List.mem_map.mpr ⟨_, hmT, rfl⟩
  exact pe_lamcall hg hm hk lk hcd hb S hN hv (hG X rfl rfl rfl rfl rfl (hr.mono (by omega)) _) (TF.tb _ hmT) hcode mT (uniq_of TF.nd mT) hr (lamS_by L) hdef hbind hbody hdb h1 h2
end
section
variable {P : Program} {w : World} {K : PySem.W.Frag} {mg : Str → Option Value} {base : Heap} {k : Nat} {x qual : Str} {at_ : Str × Option Str} {params : Arguments} {body : List Stmt} {scope : Scope} {N ps : List Str} {sp : Sp} {fd : FuncData}
theorem fn_ofL (F : FunD K x qual params body scope [] [] (He.fAd K at_) fd) (S : FnScope N ps scope) (len : ∀ vs H Q E, sp vs H Q E → vs.length = ps.length)
    (t : XK → TS) (h : ∀ (A : Around) (outer : List Env) (s : Shared) (H : Hp) (E : XK), Room k (A.deeper (envOfC qual scope s.heap.objs.size (He.fAd K at_) (.ref (He.codeOf K at_)))) →
      PSs (cxOf (L2.CX P w) P w K mg base N qual scope (He.fAd K at_) (.ref (He.codeOf K at_)) A outer s H E) body (t E))
    (pure_ : ∀ vs H Q E, sp vs H Q E → t E { nx := fun _ H' => Q .non H', rt := Q } (start N vs) H) : FnOk P w K mg base (L2.CX P w) (k + 1) (He.fAd K at_) fd ps sp := by
  obtain ⟨oc, od, dV, kV, doc, pm, an, cdv, ct, osl, rfl, lk, hcd, _, _⟩ := F.ex
  obtain ⟨c, rfl⟩ := He.codeIn_ref hcd
  have e : He.codeOf K at_ = c := He.codeOf_eq lk rfl
  rw [e] at h
  exact fn_of lk hcd S len fun A outer s H vs Q E hr hsp => ⟨t E, h A outer s H E hr, pure_ vs H Q E hsp⟩
theorem warm_of {t : Addr → Addr → Option Addr → TS} {y : Str} (F : FunD K x x params body scope [] [] (He.fAd K (x, none)) fd) (b : Binds K fd [y] []) (S : FnScope N [y] scope) (hm : mg x = some (.ref (He.fAd K (x, none))))
    (h : ∀ (D a : Addr) (d : Option Addr) (oe : Obj), ExcC K D → Zc (.ref D) d oe → (∃ vs, oe.data = .fields vs) → ∀ (cdv : Value) (A : Around) (outer : List Env) (z : Shared) (H : Hp), PSs (cxP P w K mg base N x scope (He.fAd K (x, none)) cdv A outer z H a oe) body (t D a d)) : WarmFn P w K mg base x N t := by
  obtain ⟨oc, od, dV, kV, doc, pm, an, cdv, ct, osl, rfl, lk, hcd, _, _⟩ := F.ex
  exact ⟨_, _, _, _, _, dV, kV, doc, pm, cdv, ct, oc, an, od, osl, lk, hcd, S, b, hm, F.kp, fun D a d oe C hz hf A outer z H => h D a d oe C hz hf cdv A outer z H⟩
theorem told_of {y : Str} (F : FunD K x x params body scope [] [] (He.fAd K (x, none)) fd) (b : Binds K fd [y] []) (S : FnScope N [y] scope) (hN : N[0]? = some y) (hv : Vis scope y) (hm : mg x = some (.ref (He.fAd K (x, none)))) (h1 : (y == ("__debug__" : Str)) = false) (h2 : (y == ("__classdict__" : Str)) = false)
    (h : ∀ (cdv : Value) (X : Cx), X.prog = P → X.w = w → X.K = K → X.mg = mg → X.base = base → Room 2 X.A → ∀ q, GivesTo X N x scope (He.fAd K (x, none)) cdv body y q (TTold K)) : ToldFn P w K mg base x := by
  obtain ⟨oc, od, dV, kV, doc, pm, an, cdv, ct, osl, rfl, lk, hcd, _, _⟩ := F.ex
  exact ⟨_, _, _, _, _, _, dV, kV, doc, pm, cdv, ct, oc, an, od, osl, lk, hcd, b, S, hN, hv, hm, F.kp, h1, h2, fun X => h cdv X⟩
end
def xCount (K : PySem.W.Frag) : V → List V → Hp → VK → Prop := fun x xs H Q => ∃ a ys y, x = V.ref a ∧ xs = [y] ∧ SqL K H a ys ∧ flatV y = true ∧ ys.all flatV = true ∧ Q (.int ((ys.countP fun z => eqV z y : Nat) : Int)) H
theorem countU : ∀ {ys : List V} {its : List Value} {y : V}, Vals ys its → ys.all flatV = true → its.countP (eqU y) = ys.countP fun z => eqV z y
  | _, _, _, .nil, _ => rfl
  | z :: ys, u :: its, y, .cons r rr, f => by
    rw [List.all_cons, Bool.and_eq_true] at f
    rw [List.countP_cons, List.countP_cons, countU rr f.2, eqU_of r f.1]
theorem mt_countF {X : Cx} : MtR X "list.count" (xCount X.K) := by
  intro pins z σ H x xs v us Q I rx rxs h
  obtain ⟨a, ys, y, rfl, rfl, hs, fy, fys, q⟩ := h
  cases rx
  obtain ⟨u, rfl, ru⟩ := rxs.one
  obtain ⟨its, rv, ⟨⟨cls, dd, data, sl⟩, n, ho, hc, hdn, hd⟩, hlen⟩ := I.list hs
  cases (show cls = _ from hc)
  cases (show data = _ from hd)
  refine call_meets PySem.F.slot_list_count ⟨_, ho, rfl⟩ PySem.F.entry_list_count (PySem.F.args_list_count_2 _ _) (SeqAt.list_countAt a its.toArray n dd sl u (eqU y)) ⟨ho, fun u' hu' => mem_eqAt ru fy rv fys u' (by simpa using hu'), ?_⟩
  have ec : its.toArray.toList.countP (eqU y) = ys.countP fun z => eqV z y := countU rv fys
  rw [ec]
  exact ⟨.int ((ys.countP fun z => eqV z y : Nat) : Int), H, I.tok _, ⟨_, rfl⟩, q⟩
theorem room_suite {A : Around} {env : Env} {h : Option Value} (r : Room 2 A) : L2H.RoomH 1 ((A.deeper env).mark h) := ⟨(r.deeper env).dp, (r.deeper env).un⟩
end Rs

namespace Rs
open PySem PySem.Spec PyProof.Rows L2
theorem overB_ok {K : PySem.W.Frag} {C : Addr} (q : overB K C = true) : ∃ nm q N bs bm sn sub ab col dd k0 k1 k2 k3 k5, K.lookup C = some (excClassObj nm q C N bs bm true sn sub ab col dd k0 k1 k2 k3 k5 "ValueError.__new__") ∧ PySem.HandSPX.refsVE bm = true := by
  unfold overB at q
  split at q
  · rename_i dd cd sl ho
    split at q
    · rename_i C' bm k0 k1 k2 k3 n k5 hm hs
      simp only [Bool.and_eq_true, beq_iff_eq, Bool.not_eq_true'] at q
      obtain ⟨rfl, rfl, hdel, hdict, ht⟩ := q
      obtain ⟨nm, bs, mro, ns, qn, hd, sn, sub, ab, col, del⟩ := cd
      dsimp only at hm hdel hdict
      subst hm hdel hdict
      have hsl : sl = #[k0, k1, k2, k3, some (.builtin "ValueError.__new__"), k5] := by
        obtain ⟨l⟩ := sl
        simp only at hs
        rw [hs]
      subst hsl
      exact ⟨nm, qn, ns, bs, bm, sn, sub, ab, col, dd, k0, k1, k2, k3, k5, ho, ht⟩
    · cases q
  · cases q
structure BaseInit (K : PySem.W.Frag) (S : Addr) : Prop where
  sp : PySem.W.specialIn K (.ref S) "__getattribute__" = some (some (.builtin "type.__getattribute__"))
  rd : PySem.W.readsIn K S (.type "type") = true
  fi : PySem.W.findCls K (.ref S) (.type "type") "__init__" = some (.val (.builtin "ValueError.__init__"))
structure ErrMk (K : PySem.W.Frag) (x f : Str) : Prop where
  oex : OexC K (He.ga K x)
  noF : PySem.W.findIn K (.ref (He.ga K x)) f = some none
  iC : PySem.W.findIn K (.ref (He.ga K x)) "__init__" = some (some (.ref (He.fAd K (x, some "__init__"))))
  tI : PySem.W.typeIn K (.ref (He.fAd K (x, some "__init__"))) = some (.type "function")
  base : BaseInit K (He.ga K "SortError")
theorem emB_ok {K : PySem.W.Frag} {x f : Str} (h : emB x f K = true) : ErrMk K x f := by
  unfold emB at h
  simp only [Bool.and_eq_true, decide_eq_true_eq] at h
  obtain ⟨h1, h2, h3, h4, h5, h6, h7, h8, h9, h10, h11⟩ := h
  refine ⟨⟨overB_ok h1, h2, h3, h4, h5⟩, h6, h7, h8, ⟨h9, h10, ?_⟩⟩
  split at h11
  · rename_i n q
    rw [q, beq_iff_eq.mp h11]
  · cases h11
section
variable {X : Cx} {e : Expr} {es : List Expr} {ta : TA} {p1 p2 pos : Pos}
theorem pe_binit {pl : Sem Bool} {x : Str} {S : Addr} (B : BaseInit X.K S) (hg : Gl X x) (hm : X.mg x = some (.ref S)) (ha : PA X (e :: es) ta) (hdb : (x == ("__debug__" : Str)) = false := by decide)
    (hc : eval (.Call (.Attribute (.Name x p1) "__init__" p2) (e :: es) [] pos) X.env = (do
      let ov ← eval (.Name x p1) X.env
      standAt p2.atName
      let (f, first) ← holding [ov] (getMethod ov "__init__" pl)
      callWith pos f first (backTo pos (starEach (e :: es) X.env)) (backToKw pos (keywordEach [] X.env))) := by rfl)
    (he : starEach (e :: es) X.env = (false, eval e X.env) :: starEach es X.env := by rfl) (hpl : (backTo pos (starEach es X.env)).any (·.1) = false := by rfl) :
    PE X (.Call (.Attribute (.Name x p1) "__init__" p2) (e :: es) [] pos) (tVeI X.K ta) := by
  refine ⟨fun pins s σ H Q I h => ?_⟩
  refine PySem.W.methodCall_KW (ld_glob I hg hm ?_ hdb) hc
  refine PySem.W.method_cls I.kIn B.sp (PySem.W.cls_value I.kIn B.rd B.fi (by decide +kernel) ?_)
  show wpAny _ _ (callWith pos (Value.builtin "ValueError.__init__") [] (backTo pos (starEach (e :: es) X.env)) []) _ _ _
  refine PyProof.Rows.callWith_method1 (thn (ha.run pos pins _ σ H _ (I.tok _) h) fun us s1 ⟨vs, H1, I1, r1, a, C, ws, ev, hl, T, ea, q⟩ => ?_) he hpl
  subst ev
  cases r1 with
  | @cons _ u0 _ ur ra rw' =>
    obtain rfl : u0 = Value.ref a := ra
    have hlen : ur.length ≤ sizeLine := by
      rw [← Paired.length rw', sizeLine_eq]
      omega
    exact oinit_ok T I1 ea hlen fun s' J => ⟨.non, H1, J, rfl, q⟩
end
def sp_einit (K : PySem.W.Frag) (f : Str) : Sp := fun vs H Q E => match vs with
  | [sv, pv] => ∃ a C : Addr, sv = .ref a ∧ OexC K C ∧ PySem.W.findIn K (.ref C) f = some none ∧ H a = some (exo a C none) ∧ ∀ dx, H dx = none → dx ≠ a → Q .non (upd (upd H dx (exd dx [(f, pv)])) a (exo a C (some dx)))
  | _ => False
def t_einit (K : PySem.W.Frag) (f m : Str) : TS := tSeq (tDrop (tVeI K (tCons (tVar 0) (tConsC (.str m) tNil)))) (tOst K f (tVar 0) (tVar 1))
theorem pure_einit {K : PySem.W.Frag} {f m : Str} {N : List Str} (hN : N.length = 2) : ∀ vs H Q E, sp_einit K f vs H Q E → t_einit K f m { nx := fun _ H' => Q .non H', rt := Q } (start N vs) H := by
  intro vs H Q E h
  match vs, h with
  | [sv, pv], h =>
    obtain ⟨a, C, rfl, T, hf, ea, k⟩ := h
    have e : start N [V.ref a, pv] = [some (V.ref a), some pv] := by
      obtain ⟨x, y, rfl⟩ : ∃ x y, N = [x, y] := by
        match N, hN with
        | [x, y], _ => exact ⟨x, y, rfl⟩
      rfl
    rw [e]
    exact ⟨_, rfl, a, C, [.str m], rfl, by show 1 ≤ 1000; decide, T, ea, _, rfl, _, rfl, a, C, rfl, T, hf, .inl ⟨ea, fun dx hd ne => k dx hd ne⟩⟩
def tRaiseX (K : PySem.W.Frag) (x f : Str) (E : XK) (ta : TA) : TS := fun D σ H => ta σ H fun vs H1 => ∃ v, vs = [v] ∧ ∀ d, H1 d = none → E (.ref (He.ga K x)) (some d) (upd H1 d (.xd [(f, v)]))
section
variable {X : Cx} {E : XK} {k : Nat} {x f : Str} {e : Expr} {ta : TA} {p pos pos2 : Pos}
theorem pa_weak {es : List Expr} (ha : PA X es ta) : PA X es (fun σ H Q => ∃ R : List V → Hp → Prop, ta σ H R ∧ ∀ vs H1, R vs H1 → Q vs H1) :=
  ⟨fun pos pins s σ H Q I ⟨R, h, m⟩ => thn (ha.run pos pins s σ H R I h) fun us s1 ⟨vs, H1, I1, r, q⟩ => ⟨vs, H1, I1, r, m vs H1 q⟩⟩
theorem ps_raiseX (em : ErrMk X.K x f) (F : Can X.prog X.w X.K X.mg X.base k (x, some "__init__") ["self", f] (sp_einit X.K f)) (hr : Room (k + 1) X.A) (hg : Gl X x) (hm : X.mg x = some (.ref (He.ga X.K x))) (hc : X.calm = true) (tk : Takes X (fun cls d _ H => E cls d H)) (ha : PA X [e] ta)
    (hdb : (x == ("__debug__" : Str)) = false := by decide) (he : starEach [e] X.env = (false, eval e X.env) :: starEach [] X.env := by rfl) (hpl : (backTo pos (starEach [] X.env)).any (·.1) = false := by rfl) :
    PS X (.Raise (some (.Call (.Name x p) [e] [] pos)) none pos2) (tRaiseX X.K x f E ta) := by
  obtain ⟨fd, F, b, kp⟩ := F
  have P := ps_raise (pos := pos2) hc tk (pmk_oex (p := p) (pos := pos) (dvs := []) (ds := []) em.oex em.iC em.tI F hr b .nil passL hg hm (pa_weak ha) hdb he hpl)
  refine ⟨fun pins s σ H D I h => P.run pins s σ H D I ⟨_, h, fun vs H1 q => ?_⟩⟩
  obtain ⟨v, rfl, q⟩ := q
  refine ⟨by show 1 ≤ 1000; decide, fun a ha0 => ⟨a, _, rfl, em.oex, em.noF, upd_same, fun dx hdx ne => ⟨rfl, dx, [(f, v)], upd_same, ?_, ?_, ?_⟩⟩⟩
  · rw [upd_ne ne, upd_same]
  · rw [upd_ne ne] at hdx
    exact hdx
  · rw [upd_ne ne] at hdx
    have e : upd (del (upd (upd (upd H1 a (exo a (He.ga X.K x) none)) dx (exd dx [(f, v)])) a (exo a (He.ga X.K x) (some dx))) a) dx (.xd [(f, v)]) = upd H1 dx (.xd [(f, v)]) := by
      funext b
      by_cases hb : b = dx
      · rw [hb, upd_same, upd_same]
      · rw [upd_ne hb, upd_ne hb]
        by_cases hba : b = a
        · rw [hba, del_same, ha0]
        · rw [del_ne hba, upd_ne hba, upd_ne hb, upd_ne hba]
    rw [e]
    exact q dx hdx
end
end Rs

namespace Rs
open PySem PySem.Spec PyProof.Rows L2
section
variable {X : Cx}
end
end Rs

namespace Rs
open PySem PySem.Spec PyProof.Rows L2
abbrev Hds := List (Option Pr)
def hd (hs : Hds) (s : Nat) : Option Pr := (hs.getD s none)
def hdV (hs : Hds) (s : Nat) : Pr := (hd hs s).getD c0.2
def pick (o : Ord) (hs : Hds) : Option Nat → Option Nat → Option Nat
  | none, b => b
  | some i, none => some i
  | some i, some j => if before o (hdV hs i) (hdV hs j) then some i else some j
def leafOf (hs : Hds) (s : Nat) : Option Nat := if (hd hs s).isSome then some s else none
def bst (bs : List (Option Nat)) (k : Nat) : Option Nat := bs.getD k none
structure TreeOk (o : Ord) (hs : Hds) (bs : List (Option Nat)) (many : Nat) (bad : Nat → Prop) : Prop where
  len : bs.length = 2 * many
  leaf : ∀ s, s < many → bst bs (many + s) = leafOf hs s
  knot : ∀ k, 1 ≤ k → k < many → ¬ bad k → bst bs k = pick o hs (bst bs (2 * k)) (bst bs (2 * k + 1))
theorem TreeOk.imp {o : Ord} {hs : Hds} {bs : List (Option Nat)} {many : Nat} {p q : Nat → Prop} (T : TreeOk o hs bs many p) (h : ∀ k, p k → q k) : TreeOk o hs bs many q := ⟨T.len, T.leaf, fun k a b c => T.knot k a b fun z => c (h k z)⟩
end Rs

namespace Rs
open PySem PySem.Spec PyProof.Rows L2
structure TxtTree (K : PySem.W.Frag) : Prop where
  cl : Cls K (He.ga K "Tree")
  n_order : NoAttr K (He.ga K "Tree") "order"
  n_heads : NoAttr K (He.ga K "Tree") "heads"
  n_many : NoAttr K (He.ga K "Tree") "many"
  n_looks : NoAttr K (He.ga K "Tree") "looks"
  n_best : NoAttr K (He.ga K "Tree") "best"
def f_Tree (x0 x1 x2 x3 x4 : V) : List (Str × V) := [(("order" : Str), x0), (("heads" : Str), x1), (("many" : Str), x2), (("looks" : Str), x3), (("best" : Str), x4)]
def TreeOb (K : PySem.W.Frag) (H : Hp) (p : Addr) (x0 x1 x2 x3 x4 : V) : Prop := ∃ dx, H p = some (.ins (He.ga K "Tree") dx (f_Tree x0 x1 x2 x3 x4))
section
variable {K : PySem.W.Frag} {x0 x1 x2 x3 x4 y : V} {H : Hp} {Q : VK} {p : Addr} {D : Ends} {σ : L2.St}
end
section
variable {K : PySem.W.Frag} {x0 x1 x2 x3 x4 y : V} {H : Hp} {Q : VK} {p dx : Addr} {D : Ends} {σ : L2.St}
end
theorem But.tupOf {S : List Addr} {H H' : Hp} (k : But S H H') (h : ∀ b ∈ S, ∀ xs, H b ≠ some (.tup xs)) : TupLe H H' := fun c xs e => k c _ e (fun hm => h c hm xs e)
theorem nt_lst {H : Hp} {b : Addr} {vs : List V} (h : H b = some (.lst vs)) : ∀ xs, H b ≠ some (.tup xs) := fun xs e => by rw [h] at e; cases e
theorem nt_ins {H : Hp} {b C dx : Addr} {fs : List (Str × V)} (h : H b = some (.ins C dx fs)) : ∀ xs, H b ≠ some (.tup xs) := fun xs e => by rw [h] at e; cases e
theorem all3 {P : Addr → Prop} {a b c : Addr} (h1 : P a) (h2 : P b) (h3 : P c) : ∀ x ∈ [a, b, c], P x := fun x hx => by
  simp only [List.mem_cons, List.not_mem_nil, or_false] at hx
  rcases hx with rfl | rfl | rfl <;> assumption
def NatAt : Rel (Option Nat) := fun _ v q => match q with
  | none => v = .non
  | some n => v = .int ((n : Nat) : Int)
theorem NatAt.st : Stable NatAt := fun _ _ _ _ _ h => h
structure TreeS (K : PySem.W.Frag) (H : Hp) (p lo lh lb : Addr) (o : Ord) (hs : Hds) (bs : List (Option Nat)) (many : Nat) (looks : Int) : Prop where
  ob : TreeOb K H p (.ref lo) (.ref lh) (.int (many : Int)) (.int looks) (.ref lb)
  ord : Lst TurnAt H lo o
  heads : Lst OptAt H lh hs
  best : Lst NatAt H lb bs
  nhb : lh ≠ lb
  noh : lo ≠ lh
  nob : lo ≠ lb
theorem TreeOb.keep {K : PySem.W.Frag} {H H' : Hp} {p : Addr} {x0 x1 x2 x3 x4 : V} (h : TreeOb K H p x0 x1 x2 x3 x4) (k : ∀ o, H p = some o → H' p = some o) : TreeOb K H' p x0 x1 x2 x3 x4 := let ⟨dx, e⟩ := h; ⟨dx, k _ e⟩
section
variable {K : PySem.W.Frag} {H H' : Hp} {p lo lh lb : Addr} {o : Ord} {hs hs' : Hds} {bs bs' : List (Option Nat)} {many : Nat} {looks looks' : Int} {vs : List V}
theorem TreeS.pne (T : TreeS K H p lo lh lb o hs bs many looks) : p ≠ lo ∧ p ≠ lh ∧ p ≠ lb := by
  obtain ⟨dx, e⟩ := T.ob
  obtain ⟨_, e1, _⟩ := T.ord
  obtain ⟨_, e2, _⟩ := T.heads
  obtain ⟨_, e3, _⟩ := T.best
  exact ⟨ne_of e e1 (by intro z; cases z), ne_of e e2 (by intro z; cases z), ne_of e e3 (by intro z; cases z)⟩
theorem TreeS.tup (T : TreeS K H p lo lh lb o hs bs many looks) (k : But [p, lh, lb] H H') : TupLe H H' := by
  obtain ⟨dx, e⟩ := T.ob
  obtain ⟨_, e2, _⟩ := T.heads
  obtain ⟨_, e3, _⟩ := T.best
  exact k.tupOf (all3 (nt_ins e) (nt_lst e2) (nt_lst e3))
theorem TreeS.keep (T : TreeS K H p lo lh lb o hs bs many looks) (t : TupLe H H') (k : ∀ b, b = p ∨ b = lo ∨ b = lh ∨ b = lb → ∀ u, H b = some u → H' b = some u) : TreeS K H' p lo lh lb o hs bs many looks :=
  ⟨T.ob.keep (k _ (.inl rfl)), T.ord.keep TurnAt.st t (k _ (.inr (.inl rfl))), T.heads.keep OptAt.st t (k _ (.inr (.inr (.inl rfl)))), T.best.keep NatAt.st t (k _ (.inr (.inr (.inr rfl)))), T.nhb, T.noh, T.nob⟩
theorem TreeS.same (T : TreeS K H p lo lh lb o hs bs many looks) (s : Same H H') : TreeS K H' p lo lh lb o hs bs many looks := T.keep (TupLe.same s) fun b _ u => s b u
end
def lk : Option Nat → Option Nat → Int
  | some _, some _ => 1
  | _, _ => 0
def HdOk (ks : List Str) (hs : Hds) (a : Option Nat) : Prop := ∀ i, a = some i → ∃ q, hs[i]? = some (some q) ∧ isRow ks q.2 = true
theorem HdOk.of {ks : List Str} {hs : Hds} {a : Option Nat} (hok : ∀ s p, hd hs s = some p → isRow ks p.2 = true) (h : ∀ s, a = some s → (hd hs s).isSome = true) : HdOk ks hs a := fun i hi => by
  have := h i hi
  cases hq : hd hs i with
  | none => rw [hq] at this; cases this
  | some q =>
    refine ⟨q, ?_, hok i q hq⟩
    unfold hd at hq
    rw [List.getD_eq_getElem?_getD] at hq
    cases e : hs[i]? with
    | none => rw [e] at hq; cases hq
    | some z => rw [e] at hq; rw [← hq]; rfl
def cnt (bs : List (Option Nat)) (a : Nat) : Nat := ((bs.drop a).filter fun z => z.isSome).length
end Rs

namespace Rs
open PySem PySem.Spec PyProof.Rows L2
structure Mg (ks : List Str) (o : Ord) (found : List Pr) (ts : List (List Pr)) : Prop where
  fine : Fine ks (found ++ ts.flatten)
  up : Up o found
  ups : ∀ t ∈ ts, Up o t
  cross : ∀ x ∈ found, ∀ y ∈ ts.flatten, before o x y = true
end Rs

namespace Rs
open PySem PySem.Spec PyProof.Rows L2
structure TxtSieve (K : PySem.W.Frag) : Prop where
  cl : Cls K (He.ga K "Sieve")
  n_kinds : NoAttr K (He.ga K "Sieve") "kinds"
  n_room : NoAttr K (He.ga K "Sieve") "room"
  n_many : NoAttr K (He.ga K "Sieve") "many"
def f_Sieve (x0 x1 x2 : V) : List (Str × V) := [(("kinds" : Str), x0), (("room" : Str), x1), (("many" : Str), x2)]
def SieveOb (K : PySem.W.Frag) (H : Hp) (p : Addr) (x0 x1 x2 : V) : Prop := ∃ dx, H p = some (.ins (He.ga K "Sieve") dx (f_Sieve x0 x1 x2))
section
variable {K : PySem.W.Frag} {x0 x1 x2 y : V} {H : Hp} {Q : VK} {p : Addr} {D : Ends} {σ : L2.St}
end
section
variable {K : PySem.W.Frag} {x0 x1 x2 y : V} {H : Hp} {Q : VK} {p dx : Addr} {D : Ends} {σ : L2.St}
end
structure SieveS (K : PySem.W.Frag) (H : Hp) (p : Addr) (kv : V) (pr lo lc : Addr) (ks : List Str) (o : Ord) (cs : List Cell) (many : Int) : Prop where
  ob : SieveOb K H p kv (.ref pr) (.int many)
  kinds : KindsAt H kv ks
  room : RoomS K H pr lo lc o cs
  ne : p ≠ pr
theorem SieveOb.keep {K : PySem.W.Frag} {H H' : Hp} {p : Addr} {x0 x1 x2 : V} (h : SieveOb K H p x0 x1 x2) (k : ∀ o, H p = some o → H' p = some o) : SieveOb K H' p x0 x1 x2 := let ⟨dx, e⟩ := h; ⟨dx, k _ e⟩
section
variable {K : PySem.W.Frag} {H H' : Hp} {p pr lo lc : Addr} {kv : V} {ks : List Str} {o : Ord} {cs cs' : List Cell} {many many' : Int}
theorem SieveS.tup (S : SieveS K H p kv pr lo lc ks o cs many) (k : But [p, lc] H H') : TupLe H H' := fun c xs e => by
  obtain ⟨dx, e1⟩ := S.ob
  obtain ⟨vs, e2, _⟩ := S.room.cells
  exact k c _ e (nn (ne_of e e1 (by intro z; cases z)) (ne_of e e2 (by intro z; cases z)))
theorem SieveS.same (S : SieveS K H p kv pr lo lc ks o cs many) (s : Same H H') : SieveS K H' p kv pr lo lc ks o cs many := ⟨S.ob.keep fun u => s p u, S.kinds.mono (TupLe.same s), S.room.same s, S.ne⟩
end
end Rs

namespace RsM
open PySem PySem.SeqAt
section
variable {prog : Program} {w : World} {A : Around} {R : Result → Shared → Prop} {I : Addr} {fp wr : List Addr} {n : Nat} {P : Nat → Value → Prop} {St : Nat → Heap → Prop}
def CmpSt (prog : Program) (w : World) (A : Around) (base : Heap) (P : Nat → Value → Prop) (bt : Nat → Nat → Bool) : Prop :=
  ∀ i j x y (z : Shared) (Qz : Value → Shared → Prop) (Ez : Value → Shared → Prop), j < i → (∀ c o, base.get? c = some o → z.heap.get? c = some o) → P i x → P j y → Qz (.bool (bt i j)) z → wpAny (model prog w) A (richCompare .Lt x y) Qz Ez z
theorem best_le (bt : Nat → Nat → Bool) : ∀ q, argBest bt q ≤ q
  | 0 => Nat.le_refl _
  | q + 1 => by
    unfold argBest
    have := best_le bt q
    split <;> omega
theorem more (W : Walks prog w A.in1 I fp wr n P St) {base : Heap} {bt : Nat → Nat → Bool} (cmp : CmpSt prog w A.in1 base P bt) {L : Addr} (nf : L ∉ fp) (old : ∀ c o, base.get? c = some o → c ∉ wr ∧ c ≠ L) :
    ∀ (m q : Nat) (z : Shared) (best : Value) (c : Nat), n - (q + 1) = m → q + 1 ≤ n → St (q + 1) z.heap → P (argBest bt q) best → (∀ c o, base.get? c = some o → z.heap.get? c = some o) →
    z.heap.get? L = some { cls := .type "list", dict := none, data := .seq #[best, best] c, slots := #[] } →
    (∀ v g tk, P (argBest bt (n - 1)) v → (∀ b o, b ∉ wr → b ≠ L → z.heap.get? b = some o → g.get? b = some o) → R (.ok (.ret v)) { z with heap := g, toks := tk }) →
    codeAny (model prog w) A (.builtin "min.loop" ⟨[.ref I, .none, .ref L], []⟩) R z := by
  have nw : L ∉ wr := fun h => nf (W.sub _ h)
  have nm : (toString "min" ++ toString ".loop" : String) = "min.loop" := by decide
  intro m
  induction m with
  | zero =>
    intro q z best c hm hq st pb hb hL fin
    have en : q + 1 = n := by omega
    refine codeAny_builtin F.entry_min_loop ?_; rw [Around.under_plainId F.plain_min_loop _]
    show wpAny _ A.in1 (seqItems? (.ref L) >>= _) _ _ z
    refine wpAny_bind (wpAny_seqItems hL rfl ?_); show wpAny _ A.in1 (tryCatch (pyNext (.ref I)) _ >>= _) _ _ z
    refine wpAny_bind (wpAny_tryCatch (W.done z _ _ (en ▸ st) fun g tk kp => ?_))
    have hL2 := kp L _ nw hL
    show wpAny _ A.in1 (updateSeq L (fun _ => #[]) >>= _) _ _ _
    refine wpAny_bind ?_
    refine wpAny_updateSeq hL2 rfl (wpAny_bind (wpAny_letGo (wpAny_pure ?_)))
    refine fin best _ tk (by rw [← en]; exact pb) fun b o hbw hbL e => (Heap.get?_update_other _ _ (Ne.symm hbL)).trans (kp b o hbw e)
  | succ m ih =>
    intro q z best c hm hq st pb hb hL fin
    have lt : q + 1 < n := by omega
    refine codeAny_builtin F.entry_min_loop ?_; rw [Around.under_plainId F.plain_min_loop _]
    show wpAny _ A.in1 (seqItems? (.ref L) >>= _) _ _ z
    refine wpAny_bind (wpAny_seqItems hL rfl ?_); show wpAny _ A.in1 (tryCatch (pyNext (.ref I)) _ >>= _) _ _ z
    refine wpAny_bind (wpAny_tryCatch (W.item (q + 1) z _ _ lt st fun v g tk pv st2 kp => ?_))
    have hL2 := kp L _ nw hL
    have hb2 : ∀ c o, base.get? c = some o → g.get? c = some o := fun c o e => kp c o (old c o e).1 (hb c o e)
    show wpAny _ A.in1 (tryCatch (holding [v, v] (richCompare .Lt v best >>= _)) _ >>= _) _ _ _
    refine wpAny_bind (wpAny_tryCatch (wpAny_holding (wpAny_bind (cmp (q + 1) (argBest bt q) v best _ _ _ (Nat.lt_succ_of_le (best_le bt q)) hb2 pv pb ?_))))
    refine wpAny_bind (wpAny_holding (wpAny_truthy_bool ?_)); refine wpAny_bind (wpAny_letGo (wpAny_pure ?_))
    cases hbt : bt (q + 1) (argBest bt q) with
    | true =>
      simp only [if_true]
      refine wpAny_bind ?_
      refine wpAny_updateSeq hL2 rfl (wpAny_bind (wpAny_letGo ?_))
      rw [nm]
      refine wpAny_pure ⟨plainId_quiet F.plain_min_loop _, ih (q + 1) _ v _ (by omega) lt (W.frame _ _ _ st2 fun b hbf o e => ?_) (by simp only [argBest, hbt, if_true]; exact pv) (fun c o e => ?_) (Heap.get?_update_self _ hL2 rfl) fun v' g' tk' pv' kp' => ?_⟩
      · exact (Heap.get?_update_other _ _ (fun h : L = b => nf (by rw [h]; exact hbf))).trans e
      · exact (Heap.get?_update_other _ _ (Ne.symm (old c o e).2)).trans (hb2 c o e)
      · exact fin v' g' tk' pv' fun b o hbw hbL e => kp' b o hbw hbL ((Heap.get?_update_other _ _ (Ne.symm hbL)).trans (kp b o hbw e))
    | false =>
      simp only [Bool.false_eq_true, if_false]
      refine wpAny_bind (wpAny_letGo ?_)
      rw [nm]
      refine wpAny_pure ⟨plainId_quiet F.plain_min_loop _, ih (q + 1) _ best c (by omega) lt st2 (by simp only [argBest, hbt, Bool.false_eq_true, if_false]; exact pb) hb2 hL2 fun v' g' tk' pv' kp' => ?_⟩
      exact fin v' g' tk' pv' fun b o hbw hbL e => kp' b o hbw hbL (kp b o hbw e)
theorem first (W : Walks prog w A.in1 I fp wr n P St) {base : Heap} {bt : Nat → Nat → Bool} (cmp : CmpSt prog w A.in1 base P bt) {L : Addr} (nf : L ∉ fp) (old : ∀ c o, base.get? c = some o → c ∉ wr ∧ c ≠ L) (pos : 0 < n) {z : Shared} {c : Nat} (st : St 0 z.heap) (hb : ∀ c o, base.get? c = some o → z.heap.get? c = some o)
    (hL : z.heap.get? L = some { cls := .type "list", dict := none, data := .seq #[] c, slots := #[] })
    (fin : ∀ v g tk, P (argBest bt (n - 1)) v → (∀ b o, b ∉ wr → b ≠ L → z.heap.get? b = some o → g.get? b = some o) → R (.ok (.ret v)) { z with heap := g, toks := tk }) :
    codeAny (model prog w) A (.builtin "min.loop" ⟨[.ref I, .none, .ref L], []⟩) R z := by
  have nw : L ∉ wr := fun h => nf (W.sub _ h)
  have nm : (toString "min" ++ toString ".loop" : String) = "min.loop" := by decide
  refine codeAny_builtin F.entry_min_loop ?_; rw [Around.under_plainId F.plain_min_loop _]
  show wpAny _ A.in1 (seqItems? (.ref L) >>= _) _ _ z
  refine wpAny_bind (wpAny_seqItems hL rfl ?_); show wpAny _ A.in1 (tryCatch (pyNext (.ref I)) _ >>= _) _ _ z
  refine wpAny_bind (wpAny_tryCatch (W.item 0 z _ _ pos st fun v g tk pv st2 kp => ?_))
  have hL2 := kp L _ nw hL
  have hb2 : ∀ c o, base.get? c = some o → g.get? c = some o := fun c o e => kp c o (old c o e).1 (hb c o e)
  show wpAny _ A.in1 (updateSeq L (fun _ => #[v, v]) >>= _) _ _ _
  refine wpAny_bind ?_
  refine wpAny_updateSeq hL2 rfl ?_
  rw [nm]
  refine wpAny_pure ⟨plainId_quiet F.plain_min_loop _, more W cmp nf old _ 0 _ v _ rfl pos (W.frame _ _ _ st2 fun b hbf o e => ?_) pv (fun c o e => ?_) (Heap.get?_update_self _ hL2 rfl) fun v' g' tk' pv' kp' => ?_⟩
  · exact (Heap.get?_update_other _ _ (fun h : L = b => nf (by rw [h]; exact hbf))).trans e
  · exact (Heap.get?_update_other _ _ (Ne.symm (old c o e).2)).trans (hb2 c o e)
  · exact fin v' g' tk' pv' fun b o hbw hbL e => kp' b o hbw hbL ((Heap.get?_update_other _ _ (Ne.symm hbL)).trans (kp b o hbw e))
end
section
variable {prog : Program} {w : World} {A : Around} {E : Value → Shared → Prop} {s : Shared}
end
end RsM
namespace Rs
open PySem PySem.Spec PyProof.Rows L2
def cutD (c : Int × List Int) : PyData := .tuple [.int c.1, .list (c.2.map PyData.int)]
section
variable {X : Cx}
end
end Rs

namespace Rs
open PySem PySem.Spec PyProof.Rows L2
section
variable {α β : Type} {R : Rel α} {S : Rel β} {H1 H' H4 : Hp} {D : Addr} {dn : List β} {y : V} {b : β}
def PvL (S : Rel β) (H1 : Hp) (D : Addr) (dn : List β) (H' : Hp) : Prop := Lst S H' D dn ∧ Same H1 H'
theorem lcStart (hD : H1 D = none) : PvL S H1 D [] (upd H1 D (.lst [])) := ⟨⟨[], upd_same, .nil⟩, Rs.Same.new hD⟩
theorem lcPut (st : Stable S) (hD : H1 D = none) (P : PvL S H1 D dn H') (s : Same H' H4) (hy : S H4 y b) (hl : dn.length < 100000) : ∃ acc, H4 D = some (.lst acc) ∧ acc.length < sizeLine ∧ PvL S H1 D (dn ++ [b]) (upd H4 D (.lst (acc ++ [y]))) := by
  obtain ⟨⟨vs, e, p⟩, s1⟩ := P
  have l := p.length
  have e4 := s _ _ e
  have t : TupLe H4 (upd H4 D (.lst (vs ++ [y]))) := (TupLe.refl H4).list e4
  exact ⟨vs, e4, szlt (by omega), ⟨_, upd_same, P2.app (Paired.tl st ((TupLe.same s).trans t) p) (P2.one (st _ _ _ _ t hy))⟩, Rs.Same.mut (s1.trans s) hD⟩
theorem lcSkip (st : Stable S) (P : PvL S H1 D dn H') (s : Same H' H4) : PvL S H1 D dn H4 := ⟨P.1.same st s, P.2.trans s⟩
theorem take_fm {f : α → Option β} {xs : List α} {j : Nat} {x : α} (h : xs[j]? = some x) : (xs.take (j + 1)).filterMap f = (xs.take j).filterMap f ++ (f x).toList := by
  rw [List.take_succ, h, List.filterMap_append]
  cases hf : f x <;> simp [List.filterMap_cons, hf]
theorem lcm_list {K : PySem.W.Frag} {a : Addr} {vs : List V} {xs : List α} {g : TG} {tt : TT} {te : TE} {ws : List Nat} {σ : L2.St} {Qd : Hp → Prop} (f : α → Option β) (st : Stable S) (ha : H1 a = some (.lst vs)) (p : Paired (R H1) vs xs) (hD : H1 D = none)
    (turn : ∀ (j : Nat) (v : V) (x : α) (H' : Hp), xs[j]? = some x → vs[j]? = some v → R H1 v x → Same H1 H' → (∀ H4, Same H' H4 → f x = none → PvL S H1 D ((xs.take (j + 1)).filterMap f) H4) → (∀ H4 y b, Same H' H4 → f x = some b → S H4 y b → ∃ acc, H4 D = some (.lst acc) ∧ acc.length < sizeLine ∧ PvL S H1 D ((xs.take (j + 1)).filterMap f) (upd H4 D (.lst (acc ++ [y])))) →
      g v (wipe σ ws) H' fun σ2 H2 => wipe σ2 ws = wipe σ ws ∧ tt σ2 H2 fun b H3 => if b = true then te σ2 H3 fun y H4 => ∃ acc, H4 D = some (.lst acc) ∧ acc.length < sizeLine ∧ PvL S H1 D ((xs.take (j + 1)).filterMap f) (upd H4 D (.lst (acc ++ [y]))) else PvL S H1 D ((xs.take (j + 1)).filterMap f) H3)
    (hl : xs.length < 100000) (done : ∀ H', Lst S H' D (xs.filterMap f) → Same H1 H' → Qd H') :
    ∃ W : Nat → Nat → Hp → Prop, (∃ m, W 0 m (upd H1 D (.lst []))) ∧ ∀ i m H, W i m H →
      ((Itl K a).stop i H ∧ Qd H) ∨ ((Itl K a).go i H ∧ ∃ Nx : Hp → Prop, (∀ H', Nx H' → ∃ m', m' < m ∧ W (i + 1) m' H') ∧ ∀ x H', (Itl K a).yld i H x H' → g x (wipe σ ws) H' fun σ2 H2 => wipe σ2 ws = wipe σ ws ∧ tt σ2 H2 fun b H3 =>
        if b = true then te σ2 H3 fun y H4 => ∃ acc, H4 D = some (.lst acc) ∧ acc.length < sizeLine ∧ Nx (upd H4 D (.lst (acc ++ [y]))) else Nx H3) := by
  have lp := p.length
  refine lc_list (K := K) (a := a) (xs := vs) (fun j H' => PvL S H1 D ((xs.take j).filterMap f) H') (lcStart hD) ?_ ?_ ?_
  · rintro j H' _ ⟨_, s⟩
    exact SqL.of (s _ _ ha)
  · rintro j v H' hj P
    obtain ⟨x, hx, r⟩ := P2.get p hj
    have hb : ((xs.take j).filterMap f).length < 100000 := by
      have := List.length_filterMap_le f (xs.take j)
      rw [List.length_take] at this
      omega
    refine turn j v x H' hx hj r P.2 (fun H4 s hf => ?_) (fun H4 y b s hf hy => ?_)
    · rw [take_fm hx, hf, Option.toList_none, List.append_nil]
      exact lcSkip st P s
    · rw [take_fm hx, hf]
      exact lcPut st hD P s hy hb
  · rintro H' ⟨L, s⟩
    rw [List.take_of_length_le (by omega)] at L
    exact done H' L s
end
theorem ints_paired {H : Hp} : ∀ ns : List Int, Paired (IntAt H) (ns.map V.int) ns
  | [] => .nil
  | n :: ns => .cons rfl (ints_paired ns)
theorem paired_ints {H : Hp} : ∀ {vs : List V} {ns : List Int}, Paired (IntAt H) vs ns → vs = ns.map V.int
  | _, _, .nil => rfl
  | _, _, .cons h t => by rw [List.map_cons, ← paired_ints t]; congr 1
theorem Lst.ints {H : Hp} {l : Addr} {ns : List Int} : Lst IntAt H l ns ↔ H l = some (.lst (ns.map V.int)) := ⟨fun ⟨vs, e, p⟩ => by rw [← paired_ints p]; exact e, fun e => ⟨_, e, ints_paired ns⟩⟩
def IIAt : Rel (Int × Int) := fun H v p => IsTp H v [.int p.1, .int p.2]
theorem IIAt.st : Stable IIAt := fun _ _ _ _ t h => IsTp.mono t h
theorem fm_some {α β : Type} {f : α → β} : ∀ {xs : List α}, xs.filterMap (fun x => some (f x)) = xs.map f
  | [] => rfl
  | x :: xs => by rw [List.filterMap_cons, List.map_cons, fm_some]
theorem fm_if {α β : Type} {p : α → Bool} {f : α → β} : ∀ {xs : List α}, xs.filterMap (fun x => if p x = true then some (f x) else none) = (xs.filter p).map f
  | [] => rfl
  | x :: xs => by
    rw [List.filterMap_cons, List.filter_cons]
    cases p x
    · simpa using fm_if
    · simp only [if_true, List.map_cons]
      rw [fm_if]
inductive Pl where
  | leaf (n : Int)
  | node (ps : List Pl)
instance : Inhabited Pl := ⟨.leaf 0⟩
mutual
def Pl.runs : Pl → List Int
  | .leaf n => [n]
  | .node ps => Pl.runsL ps
def Pl.runsL : List Pl → List Int
  | [] => []
  | p :: ps => p.runs ++ Pl.runsL ps
end
mutual
def Pl.fits (w : Nat) : Pl → Bool
  | .leaf _ => true
  | .node ps => (decide (2 ≤ ps.length) && decide (ps.length ≤ w)) && Pl.fitsL w ps
def Pl.fitsL (w : Nat) : List Pl → Bool
  | [] => true
  | p :: ps => p.fits w && Pl.fitsL w ps
end
mutual
def Pl.depth : Pl → Nat
  | .leaf _ => 0
  | .node ps => Pl.depthL ps + 1
def Pl.depthL : List Pl → Nat
  | [] => 0
  | p :: ps => max p.depth (Pl.depthL ps)
end
mutual
inductive PlAt (H : Hp) : V → Pl → Prop
  | leaf (n : Int) : PlAt H (.int n) (.leaf n)
  | node {a : Addr} {vs : List V} {ps : List Pl} : H a = some (.tup vs) → PlAll H vs ps → PlAt H (.ref a) (.node ps)
inductive PlAll (H : Hp) : List V → List Pl → Prop
  | nil : PlAll H [] []
  | cons {v : V} {p : Pl} {vs : List V} {ps : List Pl} : PlAt H v p → PlAll H vs ps → PlAll H (v :: vs) (p :: ps)
end
mutual
theorem PlAt.mono {H H' : Hp} (t : TupLe H H') : ∀ (p : Pl) (v : V), PlAt H v p → PlAt H' v p
  | .leaf n, _, h => by
    cases h
    exact .leaf n
  | .node ps, _, h => by
    cases h with
    | node e a => exact .node (t _ _ e) (PlAll.mono t ps _ a)
theorem PlAll.mono {H H' : Hp} (t : TupLe H H') : ∀ (ps : List Pl) (vs : List V), PlAll H vs ps → PlAll H' vs ps
  | [], _, h => by
    cases h
    exact .nil
  | p :: ps, _, h => by
    cases h with
    | cons a b => exact .cons (PlAt.mono t p _ a) (PlAll.mono t ps _ b)
end
def PlR : Rel Pl := PlAt
theorem PlR.st : Stable PlR := fun _ _ v p t h => PlAt.mono t p v h
theorem PlAll.of {H : Hp} : ∀ {vs : List V} {ps : List Pl}, Paired (PlR H) vs ps → PlAll H vs ps
  | _, _, .nil => .nil
  | _, _, .cons a b => .cons a (PlAll.of b)
theorem PlAll.to {H : Hp} : ∀ {vs : List V} {ps : List Pl}, PlAll H vs ps → Paired (PlR H) vs ps
  | _, _, .nil => .nil
  | _, _, .cons a b => .cons a (PlAll.to b)
theorem PlR.node {H : Hp} {a : Addr} {vs : List V} {ps : List Pl} (e : H a = some (.tup vs)) (p : Paired (PlR H) vs ps) : PlR H (.ref a) (.node ps) := PlAt.node e (PlAll.of p)
theorem PlR.unnode {H : Hp} {v : V} {ps : List Pl} (h : PlR H v (.node ps)) : ∃ a vs, v = .ref a ∧ H a = some (.tup vs) ∧ Paired (PlR H) vs ps := by
  cases h with
  | node e a => exact ⟨_, _, rfl, e, PlAll.to a⟩
theorem PlR.unleaf {H : Hp} {v : V} {n : Int} (h : PlR H v (.leaf n)) : v = .int n := by
  cases h
  rfl
theorem Pl.runsL_map (ps : List Pl) : Pl.runsL ps = (ps.map Pl.runs).flatten := by
  induction ps with
  | nil => rfl
  | cons p ps ih => rw [Pl.runsL, ih, List.map_cons, List.flatten_cons]
theorem Pl.fitsL_all {w : Nat} (ps : List Pl) : Pl.fitsL w ps = ps.all fun p => p.fits w := by
  induction ps with
  | nil => rfl
  | cons p ps ih => rw [Pl.fitsL, ih, List.all_cons]
theorem Pl.depthL_le {ps : List Pl} {p : Pl} (h : p ∈ ps) : p.depth ≤ Pl.depthL ps := by
  induction ps with
  | nil => simp at h
  | cons q ps ih =>
    rw [Pl.depthL]
    rcases List.mem_cons.mp h with e | e
    · rw [e]; omega
    · have := ih e; omega
mutual
theorem Pl.deep {w : Nat} : ∀ (p : Pl), p.fits w = true → p.depth + 1 ≤ p.runs.length
  | .leaf n, _ => by simp [Pl.depth, Pl.runs]
  | .node ps, h => by
    rw [Pl.fits] at h
    simp only [Bool.and_eq_true, decide_eq_true_eq] at h
    have := Pl.deepL ps h.2
    rw [Pl.depth, Pl.runs]
    omega
theorem Pl.deepL {w : Nat} : ∀ (ps : List Pl), Pl.fitsL w ps = true → Pl.depthL ps + ps.length ≤ (Pl.runsL ps).length
  | [], _ => by simp [Pl.depthL, Pl.runsL]
  | p :: ps, h => by
    rw [Pl.fitsL] at h
    simp only [Bool.and_eq_true] at h
    have a := Pl.deep p h.1
    have b := Pl.deepL ps h.2
    rw [Pl.depthL, Pl.runsL, List.length_append, List.length_cons]
    omega
end
def hm (left w : Nat) : Nat := 2 + (left - 2) % (w - 1)
end Rs

namespace Rs
open PySem PySem.Spec PyProof.Rows L2
abbrev N_need_lengths : List Str := ["lengths", "length"]
abbrev P_need_lengths : List Str := ["lengths"]
structure GoodLens (ls : List Int) : Prop where
  pos : 1 ≤ ls.length
  le : ls.length ≤ 40
  all : ∀ x ∈ ls, 1 ≤ x ∧ x ≤ 1000000
def sp_need_lengths (K : PySem.W.Frag) : Sp := fun vs H Q E => match vs with
  | [lv] => ∃ l ls, lv = .ref l ∧ H l = some (.lst (ls.map V.int)) ∧ GoodLens ls ∧ ∀ H', Same H H' → Q .non H'
  | _ => False
def t_need_lengths (K : PySem.W.Frag) (E : XK) : TS := (tSeq (tIfS (tNot (tTest (tChain xLe xLe (tC (.int 1)) (tCB1 (xLen K) (tVar 0)) (tC (.int 40))))) tNever tNext)
  (tIfS (tTest (tOp (xNeE K) (tLc (iList K (tVar 0)) (gName 1) (tNot (tTest (tChain xLe xLe (tC (.int 1)) (tVar 1) (tC (.int 1000000))))) (tVar 1) [1]) (tLst tNil))) tNever tNext))
theorem pure_need_lengths {K : PySem.W.Frag} : ∀ vs H Q E, sp_need_lengths K vs H Q E → t_need_lengths K E { nx := fun _ H' => Q .non H', rt := Q } (start N_need_lengths vs) H := by
  intro vs H Q E h
  match vs, h with
  | [lv], h =>
    obtain ⟨l, ls, rfl, hl, g, k⟩ := h
    have g1 := g.pos
    have g4 := g.le
    refine ⟨_, rfl, lenL hl rfl ⟨_, _, rfl, rfl, _, rfl, ?_⟩⟩
    rw [List.length_map, decide_eq_true (show (1 : Int) ≤ (ls.length : Int) by omega)]
    refine ⟨_, _, rfl, rfl, _, rfl, ?_⟩
    rw [decide_eq_true (show (ls.length : Int) ≤ 40 by omega)]
    refine ⟨_, rfl, l, rfl, ⟨_, SqL.of hl⟩, fun D hD => ?_⟩
    refine lcm_list (S := IntAt) (fun _ => none) IntAt.st hl (ints_paired ls) hD ?_ (by omega) ?_
    · intro j v x H' hx hj r s skip put
      have e : v = .int x := r
      subst e
      have gx := g.all x (List.mem_of_getElem? hx)
      refine ⟨rfl, _, rfl, _, _, rfl, rfl, _, rfl, ?_⟩
      rw [decide_eq_true gx.1]
      refine ⟨_, _, rfl, rfl, _, rfl, ?_⟩
      rw [decide_eq_true gx.2]
      exact skip H' (Same.refl _) rfl
    · intro H2 L s
      obtain ⟨vs, e, p⟩ := L
      have el : vs.length = 0 := by rw [p.length]; simp
      refine ⟨sz0, fun q hq => neE e hq (b := false) (by rw [List.eq_nil_of_length_eq_zero el]; rfl) ⟨_, rfl, ?_⟩⟩
      exact k _ (s.trans (Rs.Same.new hq))
abbrev N_need_ways : List Str := ["ways"]
abbrev P_need_ways : List Str := ["ways"]
def sp_need_ways (K : PySem.W.Frag) : Sp := fun vs H Q E => match vs with
  | [wv] => ∃ w, wv = .int w ∧ 2 ≤ w ∧ w ≤ 6 ∧ ∀ H', Same H H' → Q .non H'
  | _ => False
def t_need_ways (K : PySem.W.Frag) (E : XK) : TS := (tIfS (tNot (tTest (tChain xLe xLe (tC (.int 2)) (tVar 0) (tC (.int 6))))) tNever tNext)
theorem pure_need_ways {K : PySem.W.Frag} : ∀ vs H Q E, sp_need_ways K vs H Q E → t_need_ways K E { nx := fun _ H' => Q .non H', rt := Q } (start N_need_ways vs) H := by
  intro vs H Q E h
  match vs, h with
  | [wv], h =>
    obtain ⟨w, rfl, h1, h2, k⟩ := h
    refine ⟨_, rfl, _, _, rfl, rfl, _, rfl, ?_⟩
    rw [decide_eq_true h1]
    refine ⟨_, _, rfl, rfl, _, rfl, ?_⟩
    rw [decide_eq_true h2]
    exact k _ (Same.refl H)
end Rs

namespace Rs
open PySem PySem.Spec PyProof.Rows L2
def rows0 (ls : List Int) : List (Int × Int) := (List.range ls.length).map fun (i : Nat) => (ls.getD i 0, (i : Int))
def plans0 (n : Nat) : List (Int × Pl) := (List.range n).map fun (i : Nat) => ((i : Int), Pl.leaf (i : Int))
structure CInv (n : Nat) (rows : List (Int × Int)) (plans : List (Int × Pl)) : Prop where
  names : ∀ r ∈ rows, ∃ q ∈ plans, q.1 = r.2
  lt : ∀ q ∈ plans, q.1 < (n : Int) + plans.length
  nd : (rows.map (·.2)).Nodup
def PKv (H : Hp) : List (Key × V) → List (Int × Pl) → Prop := Paired fun kv q => kv.1 = Sum.inl q.1 ∧ PlR H kv.2 q.2
theorem PKv.mono {H H' : Hp} (t : TupLe H H') {kvs : List (Key × V)} {plans : List (Int × Pl)} (h : PKv H kvs plans) : PKv H' kvs plans := P2.mono (fun _ _ ⟨a, b⟩ => ⟨a, PlR.st _ _ _ _ t b⟩) h
end Rs

namespace Rs
open PySem PySem.Spec PyProof.Rows L2
def cutSum (c : Int → Int → Int) : Int → List Int → Int
  | _, [] => 0
  | b, p :: ps => c b p + cutSum c p ps
def Asc : Int → List Int → Int → Prop
  | b, [], t => b = t
  | b, p :: ps, t => b < p ∧ Asc p ps t
theorem asc_le : ∀ {ps : List Int} {b t : Int}, Asc b ps t → b + ps.length ≤ t
  | [], b, t, h => by simp [Asc] at h; simp; omega
  | p :: ps, b, t, h => by
    have := asc_le h.2
    have := h.1
    rw [List.length_cons]
    omega
theorem asc_last : ∀ {qs : List Int} {b t : Int}, Asc b qs t → qs ≠ [] → ∃ ps h, qs = ps ++ [t] ∧ Asc b ps h ∧ h < t
  | [], b, t, _, n => absurd rfl n
  | [p], b, t, a, _ => by
    obtain ⟨a1, a2⟩ := a
    have a2 : p = t := a2
    exact ⟨[], b, by rw [a2]; rfl, rfl, by omega⟩
  | p :: q :: qs, b, t, a, _ => by
    obtain ⟨ps, h, e, a', l⟩ := asc_last (qs := q :: qs) a.2 (by simp)
    exact ⟨p :: ps, h, by rw [e]; rfl, ⟨a.1, a'⟩, l⟩
theorem cut_snoc {c : Int → Int → Int} : ∀ {ps : List Int} {b h t : Int}, Asc b ps h → cutSum c b (ps ++ [t]) = cutSum c b ps + c h t
  | [], b, h, t, a => by
    have a : b = h := a
    subst a
    simp [cutSum]
  | p :: ps, b, h, t, a => by
    show c b p + cutSum c p (ps ++ [t]) = c b p + cutSum c p ps + c h t
    rw [cut_snoc a.2]
    omega
structure BestCut (c : Int → Int → Int) (b e : Int) (w : Nat) (s : Int) (ps : List Int) : Prop where
  asc : Asc b ps e
  two : 2 ≤ ps.length
  le : ps.length ≤ w
  sum : s = cutSum c b ps
  min : ∀ qs, Asc b qs e → 2 ≤ qs.length → qs.length ≤ w → s ≤ cutSum c b qs
def TL (H H' : Hp) : Prop := (∀ a xs, H a = some (.tup xs) → H' a = some (.tup xs)) ∧ ∀ a xs, H a = some (.lst xs) → H' a = some (.lst xs)
theorem TL.refl (H : Hp) : TL H H := ⟨fun _ _ h => h, fun _ _ h => h⟩
theorem TL.trans {H H1 H2 : Hp} (a : TL H H1) (b : TL H1 H2) : TL H H2 := ⟨fun c xs h => b.1 c xs (a.1 c xs h), fun c xs h => b.2 c xs (a.2 c xs h)⟩
theorem TL.same {H H' : Hp} (s : Same H H') : TL H H' := ⟨fun c xs h => s c _ h, fun c xs h => s c _ h⟩
theorem TL.put {H : Hp} {a : Addr} {o u : HO} (h : H a = some u) (h1 : ∀ xs, u ≠ .tup xs) (h2 : ∀ xs, u ≠ .lst xs) : TL H (upd H a o) :=
  ⟨fun c xs e => by rw [upd_ne (fun z => by rw [z, h] at e; exact h1 xs (Option.some.inj e))]; exact e, fun c xs e => by rw [upd_ne (fun z => by rw [z, h] at e; exact h2 xs (Option.some.inj e))]; exact e⟩
theorem TL.dk {H : Hp} {a : Addr} {o : HO} {kvs : List (Key × V)} (h : H a = some (.dK kvs)) : TL H (upd H a o) := TL.put h (fun _ z => by cases z) (fun _ z => by cases z)
abbrev Cut := Int × List Int
def CutAt (H : Hp) (v : V) (q : Cut) : Prop := ∃ a l, v = .ref a ∧ H a = some (.tup [.int q.1, .ref l]) ∧ H l = some (.lst (q.2.map V.int))
theorem CutAt.tl {H H' : Hp} {v : V} {q : Cut} (t : TL H H') (h : CutAt H v q) : CutAt H' v q := let ⟨a, l, e, h1, h2⟩ := h; ⟨a, l, e, t.1 _ _ h1, t.2 _ _ h2⟩
theorem map_int_inj : ∀ {a b : List Int}, a.map V.int = b.map V.int → a = b
  | [], [], _ => rfl
  | [], _ :: _, h => by simp at h
  | _ :: _, [], h => by simp at h
  | x :: a, y :: b, h => by
    rw [List.map_cons, List.map_cons] at h
    injection h with h1 h2
    injection h1 with h1
    rw [h1, map_int_inj h2]
theorem CutAt.uniq {H : Hp} {v : V} {q r : Cut} (h : CutAt H v q) (k : CutAt H v r) : q = r := by
  obtain ⟨a, l, rfl, h1, h2⟩ := h
  obtain ⟨a', l', e, k1, k2⟩ := k
  injection e with e
  subst e
  rw [h1] at k1
  injection k1 with k1
  injection k1 with k1
  injection k1 with k1 k3
  injection k1 with k1
  injection k3 with k3
  injection k3 with k3
  subst k3
  rw [h2] at k2
  injection k2 with k2
  injection k2 with k2
  exact Prod.ext k1 (map_int_inj k2)
theorem CutAt.dp {K : PySem.W.Frag} {H : Hp} {v : V} {q : Cut} (h : CutAt H v q) : Dp K H v (cutD q) := by
  obtain ⟨a, l, rfl, h1, h2⟩ := h
  have hints : ∀ ns : List Int, DpAll K H (ns.map V.int) (ns.map PyData.int) := fun ns => by
    induction ns with
    | nil => exact .nil
    | cons x xs ih => exact .cons (.int x) ih
  exact .tup (SqT.of h1) (.cons (.int _) (.cons (.lst (SqL.of h2) (hints _)) .nil))
theorem putK_keys {kvs : List (Key × V)} {k : Key} {v : V} : ((putK kvs k v).map (·.1)) = if (valV kvs k).isSome then kvs.map (·.1) else kvs.map (·.1) ++ [k] := by
  unfold putK
  rw [valV_any]
  cases (valV kvs k).isSome
  · simp
  · simp only [if_true, List.map_map]
    congr 1
    funext kv
    show (if kv.1 = k then (kv.1, v) else kv).1 = kv.1
    split <;> rfl
theorem valV_of_mem {kvs : List (Key × V)} {k : Key} {v : V} (h : (k, v) ∈ kvs) : ∃ u, valV kvs k = some u := by
  cases e : valV kvs k with
  | some u => exact ⟨u, rfl⟩
  | none =>
    exfalso
    unfold valV at e
    rw [Option.map_eq_none_iff, List.find?_eq_none] at e
    have := e _ h
    simp at this
theorem keys_none {kvs : List (Key × V)} {k : Key} (h : valV kvs k = none) : k ∉ kvs.map (·.1) := fun hm => by
  obtain ⟨kv, hkv, e⟩ := List.mem_map.mp hm
  obtain ⟨u, hu⟩ := valV_of_mem (kvs := kvs) (k := k) (v := kv.2) (by rw [← e]; exact hkv)
  rw [h] at hu
  cases hu
theorem putK_nd {kvs : List (Key × V)} {k : Key} {v : V} (nd : (kvs.map (·.1)).Nodup) : ((putK kvs k v).map (·.1)).Nodup := by
  rw [putK_keys]
  cases e : valV kvs k with
  | some u => exact nd
  | none =>
    simp only [Option.isSome_none, Bool.false_eq_true, if_false]
    refine List.nodup_append.mpr ⟨nd, by simp, fun a ha b hb z => ?_⟩
    have hb : b = k := by simpa using hb
    rw [z, hb] at ha
    exact keys_none e ha
theorem keys_few {kvs : List (Key × V)} {b : Int} {n : Nat} (nd : (kvs.map (·.1)).Nodup) (h : ∀ k ∈ kvs.map (·.1), ∃ t : Int, k = Sum.inl t ∧ b ≤ t ∧ t ≤ b + n) : kvs.length ≤ n + 1 := by
  have sub : (kvs.map (·.1)) ⊆ (List.range (n + 1)).map fun (i : Nat) => (Sum.inl (b + (i : Int)) : Key) := fun k hk => by
    obtain ⟨t, e, h1, h2⟩ := h k hk
    refine List.mem_map.mpr ⟨(t - b).toNat, List.mem_range.mpr (by omega), ?_⟩
    rw [e]
    congr 1
    omega
  have := nd.length_le_of_subset sub
  simpa using this
theorem valV_drop {kvs : List (Key × V)} {k j : Key} : valV (dropK kvs k) j = if j = k then none else valV kvs j := by
  unfold valV dropK
  induction kvs with
  | nil => simp
  | cons kv kvs ih =>
    rw [List.filter_cons]
    by_cases e : kv.1 = k
    · rw [if_neg (by simp [e]), ih]
      by_cases ej : j = k
      · rw [if_pos ej, if_pos ej]
      · rw [if_neg ej, if_neg ej, List.find?_cons, decide_eq_false (by rw [e]; exact fun z => ej z.symm)]
    · rw [if_pos (by simp [e]), List.find?_cons]
      by_cases ej : kv.1 = j
      · rw [decide_eq_true ej, if_neg (by rw [← ej]; exact e), List.find?_cons, decide_eq_true ej]
      · rw [decide_eq_false ej, ih]
        by_cases ek : j = k
        · rw [if_pos ek, if_pos ek]
        · rw [if_neg ek, if_neg ek, List.find?_cons, decide_eq_false ej]
abbrev Costs := List ((Int × Int) × Int)
def kk (b e : Int) : List Key := [Sum.inl b, Sum.inl e]
def cLook (cl : Costs) (b e : Int) : Option Int := (cl.find? fun q => decide (q.1 = (b, e))).map (·.2)
def cOf (cl : Costs) (b e : Int) : Int := (cLook cl b e).getD 0
end Rs

namespace Rs
open PySem PySem.Spec PyProof.Rows L2
def Sound (c : Int → Int → Int) (b e : Int) (j : Nat) (t s : Int) (ps : List Int) : Prop := Asc b ps t ∧ ps.length = j ∧ s = cutSum c b ps ∧ t ≤ e ∧ (j = 1 → t < e)
structure BestV (c : Int → Int → Int) (b e : Int) (j : Nat) (H : Hp) (kvs : List (Key × V)) : Prop where
  nd : (kvs.map (·.1)).Nodup
  snd : ∀ k v, valV kvs k = some v → ∃ t s ps, k = Sum.inl t ∧ CutAt H v (s, ps) ∧ Sound c b e j t s ps
  cmp : ∀ qs t, Asc b qs t → qs.length = j → t < e → ∃ v s ps, valV kvs (Sum.inl t) = some v ∧ CutAt H v (s, ps) ∧ s ≤ cutSum c b qs
structure LateV (c : Int → Int → Int) (b e : Int) (j : Nat) (Pr : Int → Int → Prop) (H : Hp) (bk lk : List (Key × V)) : Prop where
  nd : (lk.map (·.1)).Nodup
  snd : ∀ k v, valV lk k = some v → ∃ t s ps, k = Sum.inl t ∧ CutAt H v (s, ps) ∧ Sound c b e (j + 1) t s ps
  cmp : ∀ h vh sh ph, valV bk (Sum.inl h) = some vh → CutAt H vh (sh, ph) → ∀ t, Pr h t → h < t → t ≤ e → t - h < e - b → ∃ v s ps, valV lk (Sum.inl t) = some v ∧ CutAt H v (s, ps) ∧ s ≤ sh + c h t
section
variable {c : Int → Int → Int} {b e : Int} {j : Nat} {H H' : Hp} {bk lk : List (Key × V)} {Pr Pr' : Int → Int → Prop}
theorem BestV.tl (B : BestV c b e j H bk) (t : TL H H') : BestV c b e j H' bk :=
  ⟨B.nd, fun k v h => let ⟨a, s, ps, x, y, z⟩ := B.snd k v h; ⟨a, s, ps, x, y.tl t, z⟩, fun qs a x y z => let ⟨v, s, ps, p, q, r⟩ := B.cmp qs a x y z; ⟨v, s, ps, p, q.tl t, r⟩⟩
theorem BestV.few (B : BestV c b e j H bk) (n : Nat) (h : e ≤ b + n) : bk.length ≤ n + 1 := keys_few (b := b) B.nd fun k hk => by
  obtain ⟨kv, hkv, rfl⟩ := List.mem_map.mp hk
  obtain ⟨u, hu⟩ := valV_of_mem (kvs := bk) (k := kv.1) (v := kv.2) hkv
  obtain ⟨t, s, ps, x, _, a, _, _, le, _⟩ := B.snd _ _ hu
  have := asc_le a
  exact ⟨t, x, by omega, by omega⟩
theorem LateV.few (L : LateV c b e j Pr H bk lk) (n : Nat) (h : e ≤ b + n) : lk.length ≤ n + 1 := keys_few (b := b) L.nd fun k hk => by
  obtain ⟨kv, hkv, rfl⟩ := List.mem_map.mp hk
  obtain ⟨u, hu⟩ := valV_of_mem (kvs := lk) (k := kv.1) (v := kv.2) hkv
  obtain ⟨t, s, ps, x, _, a, _, _, le, _⟩ := L.snd _ _ hu
  have := asc_le a
  exact ⟨t, x, by omega, by omega⟩
theorem LateV.tl (L : LateV c b e j Pr H bk lk) (B : BestV c b e j H bk) (t : TL H H') : LateV c b e j Pr H' bk lk :=
  ⟨L.nd, fun k v h => let ⟨a, s, ps, x, y, z⟩ := L.snd k v h; ⟨a, s, ps, x, y.tl t, z⟩, fun h vh sh ph h1 h2 a p q r z => by
    obtain ⟨t0, s0, ps0, x, y, _⟩ := B.snd _ _ h1
    have u := CutAt.uniq (y.tl t) h2
    rw [u] at y
    obtain ⟨v, s, ps, p1, p2, p3⟩ := L.cmp h vh sh ph h1 y a p q r z
    exact ⟨v, s, ps, p1, p2.tl t, p3⟩⟩
theorem LateV.imp (L : LateV c b e j Pr H bk lk) (i : ∀ h t, (valV bk (Sum.inl h)).isSome = true → Pr' h t → h < t → t ≤ e → t - h < e - b → Pr h t) : LateV c b e j Pr' H bk lk :=
  ⟨L.nd, L.snd, fun h vh sh ph h1 h2 a p q r z => L.cmp h vh sh ph h1 h2 a (i h a (by rw [h1]; rfl) p q r z) q r z⟩
theorem LateV.put (L : LateV c b e j Pr H bk lk) {h t s : Int} {vh v : V} {sh : Int} {ph ps : List Int} (hb : valV bk (Sum.inl h) = some vh) (hc : CutAt H vh (sh, ph)) (hv : CutAt H v (s, ps)) (sd : Sound c b e (j + 1) t s ps) (le : s ≤ sh + c h t)
    (old : ∀ u r, valV lk (Sum.inl t) = some u → CutAt H u r → s ≤ r.1) : LateV c b e j (fun h' t' => Pr h' t' ∨ (h' = h ∧ t' = t)) H bk (putK lk (Sum.inl t) v) := by
  refine ⟨putK_nd L.nd, fun k u hk => ?_, fun h' vh' sh' ph' h1 h2 t' p q r z => ?_⟩
  · rw [valV_put] at hk
    split at hk
    · rename_i ek
      cases hk
      exact ⟨t, s, ps, ek, hv, sd⟩
    · exact L.snd k u hk
  · rw [valV_put]
    rcases p with p | ⟨rfl, rfl⟩
    · obtain ⟨u, s', ps', p1, p2, p3⟩ := L.cmp h' vh' sh' ph' h1 h2 t' p q r z
      by_cases et : t' = t
      · subst et
        rw [if_pos rfl]
        have := old u _ p1 p2
        exact ⟨v, s, ps, rfl, hv, by show s ≤ _; have : s ≤ s' := this; omega⟩
      · rw [if_neg (fun x => et (by injection x))]
        exact ⟨u, s', ps', p1, p2, p3⟩
    · rw [if_pos rfl]
      rw [hb] at h1
      cases h1
      have u := CutAt.uniq hc h2
      injection u with u1 u2
      exact ⟨v, s, ps, rfl, hv, by rw [← u1]; exact le⟩
theorem LateV.best (L : LateV c b e j (fun _ _ => True) H bk lk) (B : BestV c b e j H bk) : BestV c b e (j + 1) H lk := by
  refine ⟨L.nd, L.snd, fun qs t a l lt => ?_⟩
  obtain ⟨ps, h, eq, a', hl⟩ := asc_last a (by intro z; rw [z] at l; simp at l)
  have lp : ps.length = j := by rw [eq] at l; simpa using l
  obtain ⟨vh, sh, ph, h1, h2, h3⟩ := B.cmp ps h a' lp (by omega)
  have := asc_le a'
  obtain ⟨v, s, ps', p1, p2, p3⟩ := L.cmp h vh sh ph h1 h2 t trivial hl (by omega) (by omega)
  refine ⟨v, s, ps', p1, p2, ?_⟩
  rw [eq, cut_snoc a']
  omega
theorem LateV.last (L : LateV c b e j (fun _ _ => True) H bk lk) (B : BestV c b e j H bk) {qs : List Int} (a : Asc b qs e) (l : qs.length = j + 1) (h2j : 1 ≤ j) : ∃ v s ps, valV lk (Sum.inl e) = some v ∧ CutAt H v (s, ps) ∧ s ≤ cutSum c b qs := by
  obtain ⟨ps, h, eq, a', hl⟩ := asc_last a (by intro z; rw [z] at l; simp at l)
  have lp : ps.length = j := by rw [eq] at l; simpa using l
  obtain ⟨vh, sh, ph, h1, h2, h3⟩ := B.cmp ps h a' lp hl
  have := asc_le a'
  obtain ⟨v, s, ps', p1, p2, p3⟩ := L.cmp h vh sh ph h1 h2 e trivial hl (by omega) (by omega)
  refine ⟨v, s, ps', p1, p2, ?_⟩
  rw [eq, cut_snoc a']
  omega
theorem BestV.drop (B : BestV c b e j H bk) : BestV c b e j H (dropK bk (Sum.inl e)) := by
  refine ⟨?_, fun k v h => ?_, fun qs t x y z => ?_⟩
  · exact B.nd.sublist ((List.filter_sublist).map _)
  · rw [valV_drop] at h
    split at h
    · cases h
    · exact B.snd k v h
  · obtain ⟨v, s, ps, p, q, r⟩ := B.cmp qs t x y z
    refine ⟨v, s, ps, ?_, q, r⟩
    rw [valV_drop, if_neg (fun w => by injection w with w; omega)]
    exact p
end
theorem Rd.same {H H' : Hp} {a : Addr} {u : HO} (s : Same H H') (r : Rd H a u) : Rd H' a u := by
  rcases r with r | ⟨o, r⟩
  · exact .inl (s _ _ r)
  · exact .inr ⟨o, s _ _ r⟩
end Rs

namespace Rs
open PySem PySem.Spec PyProof.Rows L2
theorem cs_congr {c c' : Int → Int → Int} {b0 e : Int} (h : ∀ p q, b0 ≤ p → p < q → q ≤ e → ¬ (p = b0 ∧ q = e) → c p q = c' p q) : ∀ (ps : List Int) (b : Int), Asc b ps e → b0 ≤ b → (b0 < b ∨ 2 ≤ ps.length) → cutSum c b ps = cutSum c' b ps
  | [], b, _, _, _ => rfl
  | p :: ps, b, a, h0, h1 => by
    have l := asc_le a.2
    have ih := cs_congr h ps p a.2 (by have := a.1; omega) (.inl (by have := a.1; omega))
    show c b p + cutSum c p ps = c' b p + cutSum c' p ps
    rw [ih, h b p h0 a.1 (by omega) ?_]
    rintro ⟨e1, e2⟩
    rcases h1 with h1 | h1
    · omega
    · rw [List.length_cons] at h1
      omega
theorem BestCut.congr {c c' : Int → Int → Int} {b e : Int} {w : Nat} {s : Int} {ps : List Int} (B : BestCut c b e w s ps) (h : ∀ p q, b ≤ p → p < q → q ≤ e → ¬ (p = b ∧ q = e) → c p q = c' p q) : BestCut c' b e w s ps :=
  ⟨B.asc, B.two, B.le, by rw [B.sum]; exact cs_congr h ps b B.asc (Int.le_refl _) (.inr B.two), fun qs a h1 h2 => by rw [← cs_congr h qs b a (Int.le_refl _) (.inr h1)]; exact B.min qs a h1 h2⟩
def segL (ls : List Int) (b e : Int) : List Int := (ls.drop b.toNat).take (e.toNat - b.toNat)
structure NbOk (xs : List (Int × Int)) (ls : List Int) (w : Nat) (cl : Costs) (el : Int → Int → List Int) : Prop where
  keys : cl.map (·.1) = xs
  best : ∀ b e, (b, e) ∈ xs → ∃ s, BestCut (cOf cl) b e w s (el b e) ∧ cOf cl b e = s + (segL ls b e).sum
def EndsV (xs : List (Int × Int)) (H : Hp) (ek : List (List Key × V)) (el : Int → Int → List Int) : Prop := ∀ b e, (b, e) ∈ xs → ∃ l, valV ek (kk b e) = some (.ref l) ∧ H l = some (.lst ((el b e).map V.int))
theorem EndsV.tl {xs : List (Int × Int)} {H H' : Hp} {ek : List (List Key × V)} {el : Int → Int → List Int} (h : EndsV xs H ek el) (t : TL H H') : EndsV xs H' ek el := fun b e m => let ⟨l, a, c⟩ := h b e m; ⟨l, a, t.2 _ _ c⟩
def rng (b e : Int) : List Int := (List.range (e - b).toNat).map fun (i : Nat) => b + (i : Int)
end Rs

namespace Rs
open PySem PySem.Spec PyProof.Rows L2
end Rs

namespace Rs
open PySem PySem.Spec PyProof.Rows L2
def RunE (S : List Addr) : Rel (List Pr) := fun H v xs => ∃ l, v = .ref l ∧ l ∉ S ∧ Lst PairAt H l xs
theorem RunE.same {S : List Addr} {H H' : Hp} {v : V} {xs : List Pr} (h : RunE S H v xs) (s : Same H H') : RunE S H' v xs := let ⟨l, a, b, c⟩ := h; ⟨l, a, b, c.same PairAt.st s⟩
theorem RunE.put {S : List Addr} {D : Addr} {H : Hp} {v : V} {xs : List Pr} {ys zs : List V} (h : RunE S H v xs) (e : H D = some (.lst ys)) (m : D ∈ S) : RunE S (upd H D (.lst zs)) v xs := let ⟨l, a, b, c⟩ := h; ⟨l, a, b, c.keep PairAt.st ((TupLe.refl H).list e) fun o q => up q fun z => b (by rw [z]; exact m)⟩
theorem RunE.more {S : List Addr} {D : Addr} {H : Hp} {v : V} {xs : List Pr} (h : RunE S H v xs) (n : H D = none) : RunE (D :: S) H v xs := by
  obtain ⟨l, a, b, c⟩ := h
  refine ⟨l, a, fun z => ?_, c⟩
  obtain ⟨_, e, _⟩ := c
  rcases List.mem_cons.mp z with z | z
  · rw [z, n] at e
    cases e
  · exact b z
end Rs

namespace Rs
open PySem PySem.Spec PyProof.Rows L2
mutual
theorem Pl.fits_mono {w v : Nat} (h : w ≤ v) : ∀ p : Pl, p.fits w = true → p.fits v = true
  | .leaf _, _ => rfl
  | .node ps, q => by
    rw [Pl.fits] at q ⊢
    simp only [Bool.and_eq_true, decide_eq_true_eq] at q ⊢
    exact ⟨⟨q.1.1, by omega⟩, Pl.fitsL_mono h ps q.2⟩
theorem Pl.fitsL_mono {w v : Nat} (h : w ≤ v) : ∀ ps : List Pl, Pl.fitsL w ps = true → Pl.fitsL v ps = true
  | [], _ => rfl
  | p :: ps, q => by
    rw [Pl.fitsL] at q ⊢
    simp only [Bool.and_eq_true] at q ⊢
    exact ⟨Pl.fits_mono h p q.1, Pl.fitsL_mono h ps q.2⟩
end
theorem CInv.start (ls : List Int) : CInv ls.length (rows0 ls) (plans0 ls.length) := by
  refine ⟨fun r hr => ?_, fun q hq => ?_, ?_⟩
  · obtain ⟨i, hi, rfl⟩ := List.mem_map.mp hr
    exact ⟨_, List.mem_map_of_mem (f := fun (i : Nat) => ((i : Int), Pl.leaf (i : Int))) hi, rfl⟩
  · obtain ⟨i, hi, rfl⟩ := List.mem_map.mp hq
    have := List.mem_range.mp hi
    unfold plans0
    rw [List.length_map, List.length_range]
    show (i : Int) < _
    omega
  · unfold rows0
    rw [List.map_map]
    exact nodup_cast (l := List.range ls.length) List.nodup_range
end Rs

namespace Rs
open PySem PySem.Spec PyProof.Rows L2
section
variable {α β : Type} {R : Rel α} {S : Rel β} {H1 H' H4 : Hp} {D : Addr} {dn : List β} {y : V} {b : β}
theorem lcm_tup {K : PySem.W.Frag} {a : Addr} {vs : List V} {xs : List α} {g : TG} {tt : TT} {te : TE} {ws : List Nat} {σ : L2.St} {Qd : Hp → Prop} (f : α → Option β) (st : Stable S) (ha : H1 a = some (.tup vs)) (p : Paired (R H1) vs xs) (hD : H1 D = none)
    (turn : ∀ (j : Nat) (v : V) (x : α) (H' : Hp), xs[j]? = some x → vs[j]? = some v → R H1 v x → Same H1 H' → (∀ H4, Same H' H4 → f x = none → PvL S H1 D ((xs.take (j + 1)).filterMap f) H4) → (∀ H4 y b, Same H' H4 → f x = some b → S H4 y b → ∃ acc, H4 D = some (.lst acc) ∧ acc.length < sizeLine ∧ PvL S H1 D ((xs.take (j + 1)).filterMap f) (upd H4 D (.lst (acc ++ [y])))) →
      g v (wipe σ ws) H' fun σ2 H2 => wipe σ2 ws = wipe σ ws ∧ tt σ2 H2 fun b H3 => if b = true then te σ2 H3 fun y H4 => ∃ acc, H4 D = some (.lst acc) ∧ acc.length < sizeLine ∧ PvL S H1 D ((xs.take (j + 1)).filterMap f) (upd H4 D (.lst (acc ++ [y]))) else PvL S H1 D ((xs.take (j + 1)).filterMap f) H3)
    (hl : xs.length < 100000) (done : ∀ H', Lst S H' D (xs.filterMap f) → Same H1 H' → Qd H') :
    ∃ W : Nat → Nat → Hp → Prop, (∃ m, W 0 m (upd H1 D (.lst []))) ∧ ∀ i m H, W i m H →
      ((Itt K a).stop i H ∧ Qd H) ∨ ((Itt K a).go i H ∧ ∃ Nx : Hp → Prop, (∀ H', Nx H' → ∃ m', m' < m ∧ W (i + 1) m' H') ∧ ∀ x H', (Itt K a).yld i H x H' → g x (wipe σ ws) H' fun σ2 H2 => wipe σ2 ws = wipe σ ws ∧ tt σ2 H2 fun b H3 =>
        if b = true then te σ2 H3 fun y H4 => ∃ acc, H4 D = some (.lst acc) ∧ acc.length < sizeLine ∧ Nx (upd H4 D (.lst (acc ++ [y]))) else Nx H3) := by
  have lp := p.length
  refine lc_tup (K := K) (a := a) (xs := vs) (fun j H' => PvL S H1 D ((xs.take j).filterMap f) H') (lcStart hD) ?_ ?_ ?_
  · rintro j H' _ ⟨_, s⟩
    exact SqT.of (s _ _ ha)
  · rintro j v H' hj P
    obtain ⟨x, hx, r⟩ := P2.get p hj
    have hb : ((xs.take j).filterMap f).length < 100000 := by
      have := List.length_filterMap_le f (xs.take j)
      rw [List.length_take] at this
      omega
    refine turn j v x H' hx hj r P.2 (fun H4 s hf => ?_) (fun H4 y b s hf hy => ?_)
    · rw [take_fm hx, hf, Option.toList_none, List.append_nil]
      exact lcSkip st P s
    · rw [take_fm hx, hf]
      exact lcPut st hD P s hy hb
  · rintro H' ⟨L, s⟩
    rw [List.take_of_length_le (by omega)] at L
    exact done H' L s
end
def StrAt : Rel Str := fun _ v x => v = .str x
theorem StrAt.st : Stable StrAt := fun _ _ _ _ _ h => h
theorem strs_paired {H : Hp} : ∀ ns : List Str, Paired (StrAt H) (ns.map V.str) ns
  | [] => .nil
  | n :: ns => .cons rfl (strs_paired ns)
theorem paired_strs {H : Hp} : ∀ {vs : List V} {ns : List Str}, Paired (StrAt H) vs ns → vs = ns.map V.str
  | _, _, .nil => rfl
  | _, _, .cons h t => by rw [List.map_cons, ← paired_strs t]; congr 1
theorem Lst.strs {H : Hp} {l : Addr} {ns : List Str} : Lst StrAt H l ns ↔ H l = some (.lst (ns.map V.str)) := ⟨fun ⟨vs, e, p⟩ => by rw [← paired_strs p]; exact e, fun e => ⟨_, e, strs_paired ns⟩⟩
open _root_.TL
def numS (n : Int) : Str := Str.ofString (toString n)
mutual
def Pl.words : Pl → List Str
  | .leaf n => [numS n]
  | .node ps => ("(" : Str) :: (Pl.wordsL ps ++ [(")" : Str)])
def Pl.wordsL : List Pl → List Str
  | [] => []
  | p :: ps => p.words ++ Pl.wordsL ps
end
mutual
def Pl.text : Pl → Str
  | .leaf n => numS n
  | .node ps => (("( " : Str) ++ Txt.join (" " : Str) (Pl.textL ps)) ++ (" )" : Str)
def Pl.textL : List Pl → List Str
  | [] => []
  | p :: ps => p.text :: Pl.textL ps
end
theorem Pl.textL_map (ps : List Pl) : Pl.textL ps = ps.map Pl.text := by
  induction ps with
  | nil => rfl
  | cons p ps ih => rw [Pl.textL, ih, List.map_cons]
theorem Pl.wordsL_map (ps : List Pl) : Pl.wordsL ps = (ps.map Pl.words).flatten := by
  induction ps with
  | nil => rfl
  | cons p ps ih => rw [Pl.wordsL, ih, List.map_cons, List.flatten_cons]
theorem joinL_app {s : List Nat} : ∀ {a b : List (List Nat)}, a ≠ [] → b ≠ [] → joinL s (a ++ b) = joinL s a ++ (s ++ joinL s b)
  | [], b, h, _ => absurd rfl h
  | [x], [], _, h => absurd rfl h
  | [x], y :: b, _, _ => rfl
  | x :: z :: a, b, _, h => by
    have ih := joinL_app (s := s) (a := z :: a) (b := b) (by simp) h
    show x ++ (s ++ joinL s (z :: a ++ b)) = (x ++ (s ++ joinL s (z :: a))) ++ (s ++ joinL s b)
    rw [ih]
    simp [List.append_assoc]
theorem joinL_flat {s : List Nat} : ∀ {xss : List (List (List Nat))}, (∀ xs ∈ xss, xs ≠ []) → joinL s xss.flatten = joinL s (xss.map (joinL s))
  | [], _ => rfl
  | [xs], h => by simp [joinL]
  | xs :: ys :: r, h => by
    have ih := joinL_flat (s := s) (xss := ys :: r) fun z hz => h z (List.mem_cons_of_mem _ hz)
    have n1 := h xs (List.mem_cons_self ..)
    have n2 : (ys :: r).flatten ≠ [] := by
      have := h ys (by simp)
      intro z
      rw [List.flatten_cons] at z
      exact this (List.append_eq_nil_iff.mp z).1
    rw [List.flatten_cons, joinL_app n1 n2, ih]
    rfl
theorem Pl.words_ne (p : Pl) : p.words ≠ [] := by
  cases p <;> simp [Pl.words]
theorem tl_join' (y : Str) (ps : List Str) : tl (Txt.join y ps) = joinL (tl y) (ps.map tl) := by rw [join_eq, tl_join]
mutual
theorem Pl.join_words {w : Nat} : ∀ (p : Pl), p.fits w = true → joinL (tl (" " : Str)) (p.words.map tl) = tl p.text
  | .leaf n, _ => rfl
  | .node ps, h => by
    rw [Pl.fits] at h
    simp only [Bool.and_eq_true, decide_eq_true_eq] at h
    have ih := Pl.join_wordsL ps h.2
    have nn : ps ≠ [] := by intro z; rw [z] at h; simp at h
    have n1 : (Pl.wordsL ps).map tl ≠ [] := by
      intro z
      rw [List.map_eq_nil_iff] at z
      cases ps with
      | nil => exact nn rfl
      | cons p ps =>
        rw [Pl.wordsL] at z
        exact Pl.words_ne p (List.append_eq_nil_iff.mp z).1
    show joinL (tl (" " : Str)) (([tl ("(" : Str)] : List (List Nat)) ++ (Pl.wordsL ps ++ [(")" : Str)]).map tl) = tl ((("( " : Str) ++ Txt.join (" " : Str) (Pl.textL ps)) ++ (" )" : Str))
    rw [List.map_append, joinL_app (by simp) (by simp), joinL_app n1 (by simp), Pl.wordsL_map, List.map_flatten, joinL_flat, tl_append, tl_append, tl_join']
    · have e : (((ps.map Pl.words).map (List.map tl)).map (joinL (tl (" " : Str)))) = (Pl.textL ps).map tl := by
        rw [List.map_map, List.map_map, Pl.textL_map, List.map_map]
        exact List.map_congr_left fun p hp => ih p hp
      rw [e]
      have e1 : tl ("( " : Str) = tl ("(" : Str) ++ tl (" " : Str) := by decide +kernel
      have e2 : tl (" )" : Str) = tl (" " : Str) ++ tl (")" : Str) := by decide +kernel
      rw [e1, e2]
      simp [joinL, List.append_assoc]
    · intro xs hxs
      obtain ⟨ys, hys, rfl⟩ := List.mem_map.mp hxs
      obtain ⟨p, _, rfl⟩ := List.mem_map.mp hys
      intro z
      exact Pl.words_ne p (List.map_eq_nil_iff.mp z)
theorem Pl.join_wordsL {w : Nat} : ∀ (ps : List Pl), Pl.fitsL w ps = true → ∀ p ∈ ps, joinL (tl (" " : Str)) (p.words.map tl) = tl p.text
  | [], _, p, hp => by simp at hp
  | q :: ps, h, p, hp => by
    rw [Pl.fitsL] at h
    simp only [Bool.and_eq_true] at h
    rcases List.mem_cons.mp hp with e | e
    · rw [e]
      exact Pl.join_words q h.1
    · exact Pl.join_wordsL ps h.2 p e
end
theorem Pl.join_eq {w : Nat} {p : Pl} (h : p.fits w = true) : Txt.join (" " : Str) p.words = p.text := by
  refine str_ext ?_
  show tl _ = tl _
  rw [tl_join', Pl.join_words p h]
def numOk (n : Nat) : Bool := decide ((numS n).length ≤ 2) && decide (1 ≤ (numS n).length) && ((tl (numS n)).all fun c => decide (48 ≤ c) && decide (c ≤ 57))
theorem num_ok : ∀ n : Nat, n < 100 → numOk n = true := by decide +kernel
theorem num_facts {n : Nat} (h : n < 100) : (numS n).length ≤ 2 ∧ 1 ≤ (numS n).length ∧ ∀ c ∈ tl (numS n), 48 ≤ c ∧ c ≤ 57 := by
  have := num_ok n h
  unfold numOk at this
  simp only [Bool.and_eq_true, decide_eq_true_eq, List.all_eq_true] at this
  exact ⟨this.1.1, this.1.2, this.2⟩
theorem str_len (x : Str) : x.length = (tl x).length := by simp [Str.length, tl]
theorem joinL_len {s : List Nat} : ∀ xs : List (List Nat), (joinL s xs).length ≤ (xs.map List.length).sum + xs.length * s.length
  | [] => by simp [joinL]
  | [x] => by simp [joinL]
  | x :: y :: r => by
    have ih := joinL_len (s := s) (y :: r)
    show (x ++ (s ++ joinL s (y :: r))).length ≤ _
    rw [List.length_append, List.length_append, List.map_cons, List.sum_cons, List.length_cons (a := x)]
    rw [Nat.add_mul]
    omega
mutual
theorem Pl.text_len {w : Nat} : ∀ (p : Pl), p.fits w = true → (∀ r ∈ p.runs, 0 ≤ r ∧ r < 100) → p.text.length + 6 ≤ 8 * p.runs.length
  | .leaf n, _, h => by
    obtain ⟨h0, h1⟩ := h n (by simp [Pl.runs])
    have e : n = ((n.toNat : Nat) : Int) := by omega
    have := (num_facts (n := n.toNat) (by omega)).1
    rw [← e] at this
    simp only [Pl.text, Pl.runs, List.length_singleton]
    omega
  | .node ps, h, hr => by
    rw [Pl.fits] at h
    simp only [Bool.and_eq_true, decide_eq_true_eq] at h
    have ih := Pl.text_lenL ps h.2 hr
    rw [str_len]
    show (tl ((("( " : Str) ++ Txt.join (" " : Str) (Pl.textL ps)) ++ (" )" : Str))).length + 6 ≤ 8 * (Pl.runsL ps).length
    rw [tl_append, tl_append, tl_join', List.length_append, List.length_append]
    have jl := joinL_len (s := tl (" " : Str)) ((Pl.textL ps).map tl)
    have e1 : (tl ("( " : Str)).length = 2 := by decide +kernel
    have e2 : (tl (" )" : Str)).length = 2 := by decide +kernel
    have e3 : (tl (" " : Str)).length = 1 := by decide +kernel
    have e4 : ((Pl.textL ps).map tl).length = ps.length := by rw [Pl.textL_map, List.length_map, List.length_map]
    have e5 : (((Pl.textL ps).map tl).map List.length).sum = ((Pl.textL ps).map fun x => x.length).sum := by
      rw [List.map_map]
      exact congrArg List.sum (List.map_congr_left fun x _ => (str_len x).symm)
    rw [e5, e4, e3] at jl
    omega
theorem Pl.text_lenL {w : Nat} : ∀ (ps : List Pl), Pl.fitsL w ps = true → (∀ r ∈ Pl.runsL ps, 0 ≤ r ∧ r < 100) → ((Pl.textL ps).map fun x => x.length).sum + 6 * ps.length ≤ 8 * (Pl.runsL ps).length
  | [], _, _ => by simp [Pl.textL, Pl.runsL]
  | p :: ps, h, hr => by
    rw [Pl.fitsL] at h
    simp only [Bool.and_eq_true] at h
    rw [Pl.runsL] at hr
    have a := Pl.text_len p h.1 fun r hr' => hr r (List.mem_append_left _ hr')
    have b := Pl.text_lenL ps h.2 fun r hr' => hr r (List.mem_append_right _ hr')
    rw [Pl.textL, List.map_cons, List.sum_cons, Pl.runsL, List.length_append, List.length_cons]
    omega
end
end Rs

namespace Rs
open PySem PySem.Spec PyProof.Rows L2
abbrev N_runs_in : List Str := ["plan", "found", "part"]
abbrev P_runs_in : List Str := ["plan"]
def spr_runs_in (K : PySem.W.Frag) (d : Nat) : Sp := fun vs H Q E => match vs with
  | [pv] => ∃ pl, PlR H pv pl ∧ pl.depth < d ∧ pl.runs.length ≤ 1000 ∧ ∀ l H', H l = none → H' l = some (.lst (pl.runs.map V.int)) → Same H H' → Q (.ref l) H'
  | _ => False
abbrev sp_runs_in (K : PySem.W.Frag) : Sp := spr_runs_in K 42
theorem no_runs_in (K : PySem.W.Frag) : ∀ vs H Q E, ¬ spr_runs_in K 0 vs H Q E := fun vs H Q E h => by
  unfold spr_runs_in at h
  match vs, h with
  | [_], ⟨_, _, h1, _⟩ => omega
theorem len_runs_in (K : PySem.W.Frag) : ∀ d vs H Q E, spr_runs_in K d vs H Q E → vs.length = 1 := fun d vs H Q E h => by
  unfold spr_runs_in at h
  match vs, h with
  | [_], _ => rfl
def t_runs_in (K : PySem.W.Frag) (sp : Sp) (E : XK) : TS := (tSeq (tIfS (tNot (tB (tIsi K "tuple" (tVar 0)))) (tRet (tLst (tCons (tVar 0) tNil))) tNext)
  (tSeq (tAsg (tLst tNil) (gName 1))
   (tSeq (tFor (iTup K (tVar 0)) (gName 2) (tDrop (tBM K "list" rExtend (tVar 1) (tCons (tCall sp [] E (tCons (tVar 2) tNil)) tNil))))
    (tRet (tVar 1)))))
theorem runsL_take (ps : List Pl) (j : Nat) : (Pl.runsL (ps.take j)).length ≤ (Pl.runsL ps).length := by
  have e : Pl.runsL ps = Pl.runsL (ps.take j) ++ Pl.runsL (ps.drop j) := by
    rw [Pl.runsL_map, Pl.runsL_map, Pl.runsL_map, ← List.flatten_append, ← List.map_append, List.take_append_drop]
  rw [e, List.length_append]
  omega
theorem runsL_snoc {ps : List Pl} {j : Nat} {p : Pl} (h : ps[j]? = some p) : Pl.runsL (ps.take (j + 1)) = Pl.runsL (ps.take j) ++ p.runs := by
  rw [List.take_succ, h, Pl.runsL_map, Pl.runsL_map, List.map_append, List.flatten_append]
  simp
theorem pure_runs_in {K : PySem.W.Frag} (d : Nat) : ∀ vs H Q E, spr_runs_in K (d + 1) vs H Q E → t_runs_in K (spr_runs_in K d) E { nx := fun _ H' => Q .non H', rt := Q } (start N_runs_in vs) H := by
  intro vs H Q E hyp
  unfold spr_runs_in at hyp
  match vs, hyp with
  | [pv], hyp =>
    obtain ⟨pl, hp, hd, hl, k⟩ := hyp
    cases pl with
    | leaf n =>
      have e := PlR.unleaf hp
      subst e
      refine ⟨_, rfl, isi_go (t := "int") (b := false) (.base (.int n)) (by decide +kernel) ⟨_, rfl, _, rfl, szle (by show 1 ≤ 100000; decide), fun l hl => ?_⟩⟩
      exact k l _ hl upd_same (Rs.Same.new hl)
    | node ps =>
      obtain ⟨a, tv, rfl, et, pt⟩ := PlR.unnode hp
      rw [Pl.depth] at hd
      rw [Pl.runs] at hl k
      refine ⟨_, rfl, isi_go (t := "tuple") (b := true) (tyT (SqT.of et)) (by decide +kernel) ⟨_, rfl, ?_⟩⟩
      refine ⟨sz0, fun f hf => ?_⟩
      refine ⟨_, rfl, a, rfl, ⟨_, SqT.of ((Rs.Same.new hf) _ _ et)⟩, ?_⟩
      refine for_tup (K := K) (a := a) (xs := tv) (fun j σ H' => ∃ x2, σ = [some (.ref a), some (.ref f), x2] ∧ H' f = some (.lst ((Pl.runsL (ps.take j)).map V.int)) ∧ Same H H') ⟨none, rfl, upd_same, Rs.Same.new hf⟩ ?_ ?_ ?_
      · rintro j σ H' _ ⟨_, _, _, s⟩
        exact SqT.of (s _ _ et)
      · rintro j v σ H' hj ⟨x2, rfl, ef, s⟩
        obtain ⟨p, hp, hpv⟩ := P2.get pt hj
        have dl := Pl.depthL_le (List.mem_of_getElem? hp)
        have b1 := runsL_take ps (j + 1)
        rw [runsL_snoc hp, List.length_append] at b1
        refine ⟨_, rfl, .inl ⟨rfl, _, SqL.of ef⟩, _, rfl, p, PlR.st _ _ _ _ (TupLe.same s) hpv, by omega, by omega, fun l H2 hl2 el s2 => ?_⟩
        have ef2 := s2 _ _ ef
        refine ⟨f, l, _, _, rfl, rfl, ef2, el, szle (by rw [List.length_map, List.length_map]; omega), _, rfl, ?_, Rs.Same.mut (s.trans s2) hf⟩
        rw [upd_same, runsL_snoc hp, List.map_append]
      · rintro σ H' ⟨x2, rfl, ef, s⟩
        rw [List.take_of_length_le (by rw [pt.length]; exact Nat.le_refl _)] at ef
        exact ⟨_, rfl, k f H' hf ef s⟩
abbrev N_are_merges : List Str := ["plan", "ways", "part"]
abbrev P_are_merges : List Str := ["plan", "ways"]
mutual
def Pl.slim : Pl → Prop
  | .leaf _ => True
  | .node ps => ps.length ≤ 1000 ∧ Pl.slimL ps
def Pl.slimL : List Pl → Prop
  | [] => True
  | p :: ps => p.slim ∧ Pl.slimL ps
end
theorem Pl.slimL_of {ps : List Pl} (h : Pl.slimL ps) : ∀ p ∈ ps, p.slim := by
  induction ps with
  | nil => intro p hp; simp at hp
  | cons q ps ih =>
    rw [Pl.slimL] at h
    intro p hp
    rcases List.mem_cons.mp hp with e | e
    · rw [e]; exact h.1
    · exact ih h.2 p e
mutual
theorem Pl.slim_fits {w : Nat} (hw : w ≤ 1000) : ∀ p : Pl, p.fits w = true → p.slim
  | .leaf _, _ => trivial
  | .node ps, h => by
    rw [Pl.fits] at h
    simp only [Bool.and_eq_true, decide_eq_true_eq] at h
    exact ⟨by omega, Pl.slimL_fits hw ps h.2⟩
theorem Pl.slimL_fits {w : Nat} (hw : w ≤ 1000) : ∀ ps : List Pl, Pl.fitsL w ps = true → Pl.slimL ps
  | [], _ => trivial
  | p :: ps, h => by
    rw [Pl.fitsL] at h
    simp only [Bool.and_eq_true] at h
    exact ⟨Pl.slim_fits hw p h.1, Pl.slimL_fits hw ps h.2⟩
end
def spr_are_merges (K : PySem.W.Frag) (d : Nat) : Sp := fun vs H Q E => match vs with
  | [pv, wv] => ∃ (pl : Pl) (w : Nat), PlR H pv pl ∧ pl.depth < d ∧ pl.slim ∧ wv = .int (w : Int) ∧ ∀ H', Same H H' → Q (.bl (pl.fits w)) H'
  | _ => False
abbrev sp_are_merges (K : PySem.W.Frag) : Sp := spr_are_merges K 42
theorem no_are_merges (K : PySem.W.Frag) : ∀ vs H Q E, ¬ spr_are_merges K 0 vs H Q E := fun vs H Q E h => by
  unfold spr_are_merges at h
  match vs, h with
  | [_, _], ⟨_, _, _, h1, _⟩ => omega
theorem len_are_merges (K : PySem.W.Frag) : ∀ d vs H Q E, spr_are_merges K d vs H Q E → vs.length = 2 := fun d vs H Q E h => by
  unfold spr_are_merges at h
  match vs, h with
  | [_, _], _ => rfl
def t_are_merges (K : PySem.W.Frag) (sp : Sp) (E : XK) : TS := (tSeq (tIfS (tNot (tB (tIsi K "tuple" (tVar 0)))) (tRet (tC (.bl true))) tNext)
  (tRet (tAndV (tChain xLe xLe (tC (.int 2)) (tCB1 (xLen K) (tVar 0)) (tVar 1)) (tOp (xEqE K) (tLc (iTup K (tVar 0)) (gName 2) (tNot (tB (tCall sp [] E0 (tCons (tVar 2) (tCons (tVar 1) tNil))))) (tVar 2) [2]) (tLst tNil)))))
theorem pure_are_merges {K : PySem.W.Frag} (d : Nat) : ∀ vs H Q E, spr_are_merges K (d + 1) vs H Q E → t_are_merges K (spr_are_merges K d) E { nx := fun _ H' => Q .non H', rt := Q } (start N_are_merges vs) H := by
  intro vs H Q E hyp
  unfold spr_are_merges at hyp
  match vs, hyp with
  | [pv, wv], hyp =>
    obtain ⟨pl, w, hp, hd, sl, rfl, k⟩ := hyp
    cases pl with
    | leaf n =>
      have e := PlR.unleaf hp
      subst e
      exact ⟨_, rfl, isi_go (t := "int") (b := false) (.base (.int n)) (by decide +kernel) ⟨_, rfl, k H (Same.refl H)⟩⟩
    | node ps =>
      obtain ⟨a, tv, rfl, et, pt⟩ := PlR.unnode hp
      have lt := pt.length
      rw [Pl.depth] at hd
      rw [Pl.slim] at sl
      rw [Pl.fits] at k
      have sls := Pl.slimL_of sl.2
      refine ⟨_, rfl, isi_go (t := "tuple") (b := true) (tyT (SqT.of et)) (by decide +kernel) ⟨_, rfl, ?_⟩⟩
      refine ⟨_, rfl, lenT ⟨a, rfl, et⟩ rfl ⟨_, _, rfl, rfl, _, rfl, ?_⟩⟩
      rw [lt]
      by_cases h2 : (2 : Int) ≤ ((ps.length : Nat) : Int)
      · rw [decide_eq_true h2]
        refine ⟨_, rfl, _, _, rfl, rfl, _, rfl, ?_⟩
        have e2 : decide (2 ≤ ps.length) = true := decide_eq_true (by omega)
        by_cases hw : ((ps.length : Nat) : Int) ≤ (w : Int)
        · rw [decide_eq_true hw]
          have ew : decide (ps.length ≤ w) = true := decide_eq_true (by omega)
          rw [e2, ew, Bool.true_and, Bool.true_and] at k
          refine ⟨_, rfl, a, rfl, ⟨_, SqT.of et⟩, fun D hD => ?_⟩
          refine lcm_tup (S := PlR) (fun p : Pl => if (!p.fits w) = true then some p else none) PlR.st et pt hD ?_ (by omega) ?_
          · intro j v x H' hx hj r s skip put
            have dl := Pl.depthL_le (List.mem_of_getElem? hx)
            have r' := PlR.st _ _ _ _ (TupLe.same s) r
            refine ⟨rfl, _, rfl, _, rfl, x, w, r', by omega, sls x (List.mem_of_getElem? hx), rfl, fun H2 s2 => ⟨_, rfl, ?_⟩⟩
            cases hf : x.fits w with
            | true => exact skip H2 s2 (by rw [hf]; rfl)
            | false => exact ⟨_, rfl, put H2 _ _ s2 (by rw [hf]; rfl) (PlR.st _ _ _ _ (TupLe.same s2) r')⟩
          · intro H2 L s
            rw [fm_if (f := fun p => p), List.map_id'] at L
            obtain ⟨dv, ed, pd⟩ := L
            refine ⟨sz0, fun q hq => eqE ed hq (b := Pl.fitsL w ps) ?_ (k _ (s.trans (Rs.Same.new hq)))⟩
            have : dv.isEmpty = (ps.filter fun p => !p.fits w).isEmpty := by
              have l := pd.length
              cases dv <;> cases hh : (ps.filter fun p => !p.fits w) <;> simp [hh] at l ⊢
            rw [this, filter_nil_all, Pl.fitsL_all]
        · rw [decide_eq_false hw]
          have ew : decide (ps.length ≤ w) = false := decide_eq_false (by omega)
          rw [e2, ew] at k
          exact k H (Same.refl H)
      · rw [decide_eq_false h2]
        have e2 : decide (2 ≤ ps.length) = false := decide_eq_false (by omega)
        rw [e2] at k
        exact ⟨_, rfl, k H (Same.refl H)⟩
abbrev N_rows_in : List Str := ["lengths", "plan", "run"]
abbrev P_rows_in : List Str := ["lengths", "plan"]
def sumOf (ls : List Int) (ids : List Int) : Int := (ids.map fun r => ls.getD r.toNat 0).sum
def sp_rows_in (K : PySem.W.Frag) : Sp := fun vs H Q E => match vs with
  | [lv, pv] => ∃ (l : Addr) (ls : List Int) (pl : Pl), lv = .ref l ∧ H l = some (.lst (ls.map V.int)) ∧ PlR H pv pl ∧ pl.depth < 42 ∧ pl.runs.length ≤ 1000 ∧ (∀ r ∈ pl.runs, 0 ≤ r ∧ r < ls.length) ∧ ∀ H', Same H H' → Q (.int (sumOf ls pl.runs)) H'
  | _ => False
def t_rows_in (K : PySem.W.Frag) (E : XK) : TS := (tRet (tCB1 (rSum K) (tLc (iList K (tCall (sp_runs_in K) [] E (tCons (tVar 1) tNil))) (gName 2) tYes (tOp (rIxL K) (tVar 0) (tVar 2)) [2])))
theorem pure_rows_in {K : PySem.W.Frag} : ∀ vs H Q E, sp_rows_in K vs H Q E → t_rows_in K E { nx := fun _ H' => Q .non H', rt := Q } (start N_rows_in vs) H := by
  intro vs H Q E hyp
  match vs, hyp with
  | [lv, pv], hyp =>
    obtain ⟨l, ls, pl, rfl, hl, hp, hd, hn, hin, k⟩ := hyp
    refine ⟨_, rfl, pl, hp, hd, hn, fun lr H1 hlr er s1 => ?_⟩
    refine ⟨lr, rfl, ⟨_, SqL.of er⟩, fun D hD => ?_⟩
    refine lcm_list (S := IntAt) (fun r : Int => some (ls.getD r.toNat 0)) IntAt.st er (ints_paired pl.runs) hD ?_ (by omega) ?_
    · intro j v x H' hx hj r s skip put
      have ev : v = .int x := r
      subst ev
      obtain ⟨h0, h1⟩ := hin x (List.mem_of_getElem? hx)
      refine ⟨rfl, lc_yes ⟨_, rfl, _, rfl, ixL ((s1.trans s) _ _ hl) (j := x.toNat) (by omega) (v := .int (ls.getD x.toNat 0)) ?_ (put H' _ _ (Same.refl _) rfl rfl)⟩⟩
      rw [List.getElem?_map, List.getElem?_eq_getElem (by omega), getD_lt (by omega)]
      rfl
    · intro H2 L s
      rw [fm_some] at L
      exact ⟨D, _, rfl, SqL.of (Lst.ints.mp L), k H2 (s1.trans s)⟩
abbrev N_moved : List Str := ["lengths", "plan", "part"]
abbrev P_moved : List Str := ["lengths", "plan"]
mutual
def Pl.cost (ls : List Int) : Pl → Int
  | .leaf _ => 0
  | .node ps => sumOf ls (Pl.runsL ps) + Pl.costL ls ps
def Pl.costL (ls : List Int) : List Pl → Int
  | [] => 0
  | p :: ps => p.cost ls + Pl.costL ls ps
end
theorem Pl.costL_map (ls : List Int) (ps : List Pl) : Pl.costL ls ps = (ps.map fun p => p.cost ls).sum := by
  induction ps with
  | nil => rfl
  | cons p ps ih => rw [Pl.costL, ih, List.map_cons, List.sum_cons]
def spr_moved (K : PySem.W.Frag) (d : Nat) : Sp := fun vs H Q E => match vs with
  | [lv, pv] => ∃ (l : Addr) (ls : List Int) (pl : Pl), lv = .ref l ∧ H l = some (.lst (ls.map V.int)) ∧ PlR H pv pl ∧ pl.depth < d ∧ pl.depth < 42 ∧ pl.slim ∧ pl.runs.length ≤ 1000 ∧ (∀ r ∈ pl.runs, 0 ≤ r ∧ r < ls.length) ∧ ∀ H', Same H H' → Q (.int (pl.cost ls)) H'
  | _ => False
abbrev sp_moved (K : PySem.W.Frag) : Sp := spr_moved K 42
theorem no_moved (K : PySem.W.Frag) : ∀ vs H Q E, ¬ spr_moved K 0 vs H Q E := fun vs H Q E h => by
  unfold spr_moved at h
  match vs, h with
  | [_, _], ⟨_, _, _, _, _, _, h1, _⟩ => omega
theorem len_moved (K : PySem.W.Frag) : ∀ d vs H Q E, spr_moved K d vs H Q E → vs.length = 2 := fun d vs H Q E h => by
  unfold spr_moved at h
  match vs, h with
  | [_, _], _ => rfl
def t_moved (K : PySem.W.Frag) (sp : Sp) (E : XK) : TS := (tSeq (tIfS (tNot (tB (tIsi K "tuple" (tVar 1)))) (tRet (tC (.int 0))) tNext)
  (tRet (tOp xAdd (tCall (sp_rows_in K) [] E (tCons (tVar 0) (tCons (tVar 1) tNil))) (tCB1 (rSum K) (tLc (iTup K (tVar 1)) (gName 2) tYes (tCall sp [] E0 (tCons (tVar 0) (tCons (tVar 2) tNil))) [2])))))
theorem Pl.runs_sub {ps : List Pl} {p : Pl} (h : p ∈ ps) : p.runs.Sublist (Pl.runsL ps) := by
  rw [Pl.runsL_map]
  exact List.sublist_flatten_of_mem (List.mem_map_of_mem h)
theorem pure_moved {K : PySem.W.Frag} (d : Nat) : ∀ vs H Q E, spr_moved K (d + 1) vs H Q E → t_moved K (spr_moved K d) E { nx := fun _ H' => Q .non H', rt := Q } (start N_moved vs) H := by
  intro vs H Q E hyp
  unfold spr_moved at hyp
  match vs, hyp with
  | [lv, pv], hyp =>
    obtain ⟨l, ls, pl, rfl, hl, hp, hd, hd2, sl, hn, hin, k⟩ := hyp
    cases pl with
    | leaf n =>
      have e := PlR.unleaf hp
      subst e
      exact ⟨_, rfl, isi_go (t := "int") (b := false) (.base (.int n)) (by decide +kernel) ⟨_, rfl, k H (Same.refl H)⟩⟩
    | node ps =>
      have hp0 := hp
      obtain ⟨a, tv, rfl, et, pt⟩ := PlR.unnode hp
      have dn : (Pl.node ps).depth = Pl.depthL ps + 1 := by rw [Pl.depth]
      have rn : (Pl.node ps).runs = Pl.runsL ps := by rw [Pl.runs]
      have sl0 := sl
      rw [Pl.slim] at sl
      have sls := Pl.slimL_of sl.2
      have lt := pt.length
      refine ⟨_, rfl, isi_go (t := "tuple") (b := true) (tyT (SqT.of et)) (by decide +kernel) ⟨_, rfl, ?_⟩⟩
      refine ⟨_, rfl, _, rfl, l, ls, .node ps, rfl, hl, hp0, hd2, hn, hin, fun H1 s1 => ?_⟩
      refine ⟨_, rfl, a, rfl, ⟨_, SqT.of (s1 _ _ et)⟩, fun D hD => ?_⟩
      refine lcm_tup (S := IntAt) (fun p : Pl => some (p.cost ls)) IntAt.st (s1 _ _ et) (Paired.tl PlR.st (TupLe.same s1) pt) hD ?_ (by omega) ?_
      · intro j v x H' hx hj r s skip put
        have xm := List.mem_of_getElem? hx
        have dl := Pl.depthL_le xm
        have sb := Pl.runs_sub xm
        have sbl := sb.length_le
        rw [rn] at hn hin
        refine ⟨rfl, lc_yes ⟨_, rfl, _, rfl, l, ls, x, rfl, (s1.trans s) _ _ hl, PlR.st _ _ _ _ (TupLe.same s) r, by omega, by omega, sls x xm, by omega, fun q hq => hin q (sb.subset hq), fun H2 s2 => put H2 _ _ s2 rfl rfl⟩⟩
      · intro H2 L s
        rw [fm_some] at L
        refine ⟨D, _, rfl, SqL.of (Lst.ints.mp L), _, _, rfl, rfl, ?_⟩
        have e : sumOf ls (Pl.node ps).runs + (ps.map fun p => p.cost ls).sum = (Pl.node ps).cost ls := by
          rw [Pl.cost, Pl.costL_map, rn]
        dsimp only
        rw [e]
        exact k H2 (s1.trans s)
def sp_cost (K : PySem.W.Frag) : Sp := fun vs H Q E => match vs with
  | [lv, wv, pv] => ∃ (l : Addr) (ls : List Int) (w : Nat) (pl : Pl), lv = .ref l ∧ H l = some (.lst (ls.map V.int)) ∧ GoodLens ls ∧ wv = .int (w : Int) ∧ 2 ≤ w ∧ w ≤ 6 ∧ PlR H pv pl ∧ pl.fits w = true ∧ pl.runs.Perm (rng 0 ls.length) ∧ ∀ H', Same H H' → Q (.int (pl.cost ls)) H'
  | _ => False
theorem rng_len (n : Nat) : (rng 0 n).length = n := by
  unfold rng
  rw [List.length_map, List.length_range]
  omega
theorem rng_in {n : Nat} {r : Int} (h : r ∈ rng 0 n) : 0 ≤ r ∧ r < n := by
  obtain ⟨i, hi, rfl⟩ := List.mem_map.mp h
  have := List.mem_range.mp hi
  constructor <;> omega
theorem rng_up (n : Nat) : (rng 0 n).Pairwise (· ≤ ·) := by
  unfold rng
  rw [List.pairwise_map]
  exact List.Pairwise.imp (fun h => by omega) (List.pairwise_lt_range (n := ((n : Int) - 0).toNat))
theorem int_sorted : ∀ {xs ys : List Int}, xs.Perm ys → xs.Pairwise (· ≤ ·) → ys.Pairwise (· ≤ ·) → xs = ys
  | [], ys, p, _, _ => p.nil_eq
  | x :: xs, [], p, _, _ => absurd p.symm.nil_eq (by simp)
  | x :: xs, y :: ys, p, a, b => by
    have e : x = y := by
      have hx : x ∈ y :: ys := p.mem_iff.mp (List.mem_cons_self ..)
      have hy : y ∈ x :: xs := p.mem_iff.mpr (List.mem_cons_self ..)
      rcases List.mem_cons.mp hx with h | h
      · exact h
      · rcases List.mem_cons.mp hy with h' | h'
        · exact h'.symm
        · have b1 := List.rel_of_pairwise_cons b h
          have a1 := List.rel_of_pairwise_cons a h'
          omega
    subst e
    rw [int_sorted p.cons_inv (List.Pairwise.of_cons a) (List.Pairwise.of_cons b)]
theorem ints_dp {K : PySem.W.Frag} {H : Hp} {l : Addr} {ns : List Int} (h : H l = some (.lst (ns.map V.int))) : Dp K H (.ref l) (.list (ns.map PyData.int)) := lst_dp (R := IntAt) (f := PyData.int) (fun v x e => by
  have e : v = .int x := e
  subst e
  exact .int x) (Lst.ints.mpr h)
theorem ints_ok {ns : List Int} (h : ns.length ≤ 100000) : okD 2 (.list (ns.map PyData.int)) := list_ok (n := 1) h fun _ _ => trivial
end Rs

namespace Rs
open PySem PySem.Spec PyProof.Rows L2
abbrev N_number_of : List Str := ["word", "sign"]
abbrev P_number_of : List Str := ["word"]
open _root_.TL
def figures : List Nat := tl ("0123456789" : Str)
def numGood (w : Str) : Bool := (decide (1 ≤ w.length) && decide (w.length ≤ 2)) && ((tl w).all fun c => decide (c ∈ figures)) && (decide ((tl w).head? ≠ some 48) || decide (w = "0"))
def numOf (w : Str) : Option Int := if numGood w = true then some ((NumText.digitsVal (tl w) : Nat) : Int) else none
def NumAt : Rel (Option Int) := fun _ v q => match q with
  | none => v = .non
  | some n => v = .int n
def sp_number_of (K : PySem.W.Frag) : Sp := fun vs H Q E => match vs with
  | [wv] => ∃ w : Str, wv = .str w ∧ w.length ≤ 1000 ∧ ∀ v H', NumAt H' v (numOf w) → Same H H' → Q v H'
  | _ => False
def t_number_of (K : PySem.W.Frag) (E : XK) : TS := (tSeq (tIfS (tOr (tNot (tTest (tChain xLe xLe (tC (.int 1)) (tCB1 xLenS (tVar 0)) (tC (.int 2))))) (tTest (tOp (xNeE K) (tLc (iStr (tVar 0)) (gName 1) (tTest (tOpC rNotInS (tVar 1) (.str "0123456789"))) (tVar 1) [1]) (tLst tNil)))) (tRet (tC .non)) tNext)
  (tRet (tIf (tOr (tTest (tOpC rNe (tOpC rIxS (tVar 0) (.int 0)) (.str "0"))) (tTest (tOpC rEq (tVar 0) (.str "0")))) (tCB1 xIntS (tVar 0)) (tC .non))))
theorem figures_eq : figures = [48, 49, 50, 51, 52, 53, 54, 55, 56, 57] := by decide +kernel
theorem pure_number_of {K : PySem.W.Frag} : ∀ vs H Q E, sp_number_of K vs H Q E → t_number_of K E { nx := fun _ H' => Q .non H', rt := Q } (start N_number_of vs) H := by
  intro vs H Q E hyp
  match vs, hyp with
  | [wv], hyp =>
    obtain ⟨w, rfl, hl, k⟩ := hyp
    have bad : numGood w = false → ∀ H', Same H H' → Q .non H' := fun e H' s => k .non H' (by unfold numOf; rw [e]; rfl) s
    refine ⟨_, rfl, ⟨w, rfl, szle (by omega), _, _, rfl, rfl, _, rfl, ?_⟩⟩
    by_cases h1 : (1 : Int) ≤ (w.length : Int)
    · rw [decide_eq_true h1]
      refine ⟨_, _, rfl, rfl, _, rfl, ?_⟩
      by_cases h2 : (w.length : Int) ≤ 2
      · rw [decide_eq_true h2]
        have wl := str_len w
        refine ⟨_, rfl, w, rfl, fun D hD => ?_⟩
        refine lc_it (walk_str (z := w)) (fun j H2 => H2 D = some (.lst (((w.cps.toList.take j).filter fun c => !decide (c ∈ figures)).map fun c => V.str ⟨#[c]⟩)) ∧ Same H H2) ⟨upd_same, Rs.Same.new hD⟩ (fun _ _ _ _ => trivial) ?_ ?_
        · rintro j x H1 H2 hj ⟨hd, s1⟩ ⟨rfl, c, hc, rfl⟩
          have hc' : w.cps.toList[j]? = some c := by simpa using hc
          refine ⟨rfl, _, rfl, c, _, rfl, rfl, _, rfl, ?_⟩
          have el : ("0123456789" : Str).cps.toList = figures := rfl
          rw [el]
          by_cases hm : c ∈ figures
          · rw [decide_eq_true hm]
            refine ⟨?_, s1⟩
            rw [hd, List.take_succ, hc', List.filter_append]
            simp [hm]
          · rw [decide_eq_false hm]
            refine ⟨_, rfl, _, hd, szlt (by rw [List.length_map]; have := List.length_filter_le (fun c => !decide (c ∈ figures)) (w.cps.toList.take j); have wz : w.cps.toList.length = w.length := (by simp [Str.length]); rw [List.length_take] at this; omega), ?_, Rs.Same.mut s1 hD⟩
            rw [upd_same, List.take_succ, hc', List.filter_append]
            simp [hm]
        · rintro H2 ⟨hd, s1⟩
          rw [List.take_of_length_le (by simp)] at hd
          refine ⟨sz0, fun p hp => ?_⟩
          have s2 := s1.trans (Rs.Same.new (o := .lst []) hp)
          have ea := filter_nil_all (fun c => decide (c ∈ figures)) (tl w)
          refine neE hd hp (b := !((tl w).all fun c => decide (c ∈ figures))) ?_ ⟨_, rfl, ?_⟩
          · rw [List.isEmpty_map]
            show (!(tl w).all fun c => decide (c ∈ figures)) = !((tl w).filter fun c => !decide (c ∈ figures)).isEmpty
            rw [ea]
          have e12 : (decide (1 ≤ w.length) && decide (w.length ≤ 2)) = true := by rw [decide_eq_true (by omega), decide_eq_true (by omega)]; rfl
          cases hall : (tl w).all fun c => decide (c ∈ figures) with
          | false =>
            refine bad ?_ _ s2
            unfold numGood
            rw [hall, Bool.and_false, Bool.false_and]
          | true =>
            have gd : numGood w = (decide ((tl w).head? ≠ some 48) || decide (w = "0")) := by
              unfold numGood
              rw [e12, hall, Bool.true_and, Bool.true_and]
            obtain ⟨c, r, ec⟩ : ∃ c r, tl w = c :: r := by
              cases h : tl w with
              | nil => rw [h] at wl; simp at wl; omega
              | cons c r => exact ⟨c, r, rfl⟩
            have good : numGood w = true → ∀ H', Same H H' → xIntS [.str w] H' Q := fun e H' s => by
              refine ⟨w, ((NumText.digitsVal (tl w) : Nat) : Int), rfl, ?_, by omega, k _ H' (by unfold numOf; rw [e]; rfl) s⟩
              have := SX.int_S (a := tl w) (by
                rw [List.all_eq_true] at hall ⊢
                intro x hx
                have := of_decide_eq_true (hall x hx)
                rw [figures_eq] at this
                simp at this
                simp
                omega) (by rw [ec]; simp) (by omega)
              rw [show SX.S (tl w) = w from mk_tl w] at this
              exact this
            have ec2 : w.cps.toList = c :: r := ec
            refine ⟨_, rfl, w, 0, c, rfl, rfl, szle (by omega), (show atI w.cps.toList ((0 : Nat) : Int) = some c from atI_nat (by rw [ec2]; rfl)), rfl, _, rfl, ?_⟩
            have e48 : decide (V.str (⟨#[c]⟩ : Str) = V.str "0") = decide (c = 48) := by
              by_cases e : c = 48
              · subst e
                rw [decide_eq_true rfl, decide_eq_true]
                rfl
              · rw [decide_eq_false e, decide_eq_false]
                intro z
                injection z with z
                have := congrArg (fun y : Str => y.cps.toList) z
                have z2 : [c] = [48] := this
                injection z2 with z2
                exact e z2
            rw [e48]
            by_cases e : c = 48
            · rw [decide_eq_true e]
              refine ⟨_, rfl, rfl, _, rfl, ?_⟩
              have hw : decide (V.str w = V.str "0") = decide (w = "0") := by
                by_cases z : w = "0"
                · rw [z, decide_eq_true rfl, decide_eq_true rfl]
                · rw [decide_eq_false z, decide_eq_false fun y => z (by injection y)]
              rw [hw]
              by_cases z : w = "0"
              · rw [decide_eq_true z]
                exact ⟨_, rfl, good (by rw [gd, decide_eq_true z, Bool.or_true]) _ s2⟩
              · rw [decide_eq_false z]
                refine bad ?_ _ s2
                rw [gd, decide_eq_false z, Bool.or_false, ec, e]
                rfl
            · rw [decide_eq_false e]
              refine ⟨_, rfl, good ?_ _ s2⟩
              rw [gd, ec]
              rw [decide_eq_true (show ((c :: r).head? ≠ some 48) by simpa using e)]
              rfl
      · rw [decide_eq_false h2]
        refine bad ?_ H (Same.refl H)
        unfold numGood
        rw [decide_eq_false (show ¬ w.length ≤ 2 by omega), Bool.and_false, Bool.false_and, Bool.false_and]
    · rw [decide_eq_false h1]
      refine ⟨_, rfl, bad ?_ H (Same.refl H)⟩
      unfold numGood
      rw [decide_eq_false (show ¬ 1 ≤ w.length by omega), Bool.false_and, Bool.false_and, Bool.false_and]
theorem num_of_num {n : Nat} (h : n < 100) : numOf (numS n) = some (n : Int) := by
  have : ∀ n : Nat, n < 100 → numOf (numS n) = some (n : Int) := by decide +kernel
  exact this n h
end Rs

namespace Rs
open PySem PySem.Spec PyProof.Rows L2
abbrev N_text_of : List Str := ["plan", "part"]
abbrev P_text_of : List Str := ["plan"]
open _root_.TL
def spr_text_of (K : PySem.W.Frag) (d : Nat) : Sp := fun vs H Q E => match vs with
  | [pv] => ∃ (pl : Pl), PlR H pv pl ∧ pl.depth < d ∧ pl.fits 40 = true ∧ (∀ r ∈ pl.runs, 0 ≤ r ∧ r < 100) ∧ pl.runs.length ≤ 1000 ∧ ∀ H', Same H H' → Q (.str pl.text) H'
  | _ => False
abbrev sp_text_of (K : PySem.W.Frag) : Sp := spr_text_of K 42
theorem no_text_of (K : PySem.W.Frag) : ∀ vs H Q E, ¬ spr_text_of K 0 vs H Q E := fun vs H Q E h => by
  unfold spr_text_of at h
  match vs, h with
  | [_], ⟨_, _, h1, _⟩ => omega
theorem len_text_of (K : PySem.W.Frag) : ∀ d vs H Q E, spr_text_of K d vs H Q E → vs.length = 1 := fun d vs H Q E h => by
  unfold spr_text_of at h
  match vs, h with
  | [_], _ => rfl
def t_text_of (K : PySem.W.Frag) (sp : Sp) (E : XK) : TS := (tSeq (tIfS (tNot (tB (tIsi K "tuple" (tVar 0)))) (tRet (tCB1 xStr (tVar 0))) tNext)
  (tRet (tOpC xAddS (tOpD xAddS (.str "( ") (tM1 (xJoin K) (tC (.str " ")) (tLc (iTup K (tVar 0)) (gName 1) tYes (tCall sp [] E0 (tCons (tVar 1) tNil)) [1]))) (.str " )"))))
theorem log_small {n : Int} (h0 : 0 ≤ n) (h : n < 100) : n.natAbs.log2 < 1920 := by
  have : n.natAbs < 2 ^ 1920 := Nat.lt_of_lt_of_le (by omega : n.natAbs < 2 ^ 7) (Nat.pow_le_pow_right (by decide) (by decide))
  by_cases z : n.natAbs = 0
  · rw [z]; decide
  · exact (Nat.log2_lt z).mpr this
theorem pure_text_of {K : PySem.W.Frag} (d : Nat) : ∀ vs H Q E, spr_text_of K (d + 1) vs H Q E → t_text_of K (spr_text_of K d) E { nx := fun _ H' => Q .non H', rt := Q } (start N_text_of vs) H := by
  intro vs H Q E hyp
  unfold spr_text_of at hyp
  match vs, hyp with
  | [pv], hyp =>
    obtain ⟨pl, hp, hd, fit, hr, hn, k⟩ := hyp
    cases pl with
    | leaf n =>
      have e := PlR.unleaf hp
      subst e
      obtain ⟨h0, h1⟩ := hr n (by simp [Pl.runs])
      exact ⟨_, rfl, isi_go (t := "int") (b := false) (.base (.int n)) (by decide +kernel) ⟨_, rfl, _, rfl, n, rfl, log_small h0 h1, k H (Same.refl H)⟩⟩
    | node ps =>
      have tlen := Pl.text_len _ fit hr
      obtain ⟨a, tv, rfl, et, pt⟩ := PlR.unnode hp
      have lt := pt.length
      rw [Pl.depth] at hd
      rw [Pl.fits] at fit
      simp only [Bool.and_eq_true, decide_eq_true_eq] at fit
      have fl := fit.2
      rw [Pl.fitsL_all, List.all_eq_true] at fl
      rw [Pl.runs] at hr hn
      have tl2 := Pl.text_lenL ps fit.2 hr
      refine ⟨_, rfl, isi_go (t := "tuple") (b := true) (tyT (SqT.of et)) (by decide +kernel) ⟨_, rfl, ?_⟩⟩
      refine ⟨⟨_, rfl⟩, _, rfl, a, rfl, ⟨_, SqT.of et⟩, fun D hD => ?_⟩
      refine lcm_tup (S := StrAt) (fun p : Pl => some p.text) StrAt.st et pt hD ?_ (by omega) ?_
      · intro j v x H' hx hj r s skip put
        have xm := List.mem_of_getElem? hx
        have dl := Pl.depthL_le xm
        have sb := Pl.runs_sub xm
        have sbl := sb.length_le
        exact ⟨rfl, lc_yes ⟨_, rfl, x, PlR.st _ _ _ _ (TupLe.same s) r, by omega, fl x xm, fun q hq => hr q (sb.subset hq), by omega, fun H2 s2 => put H2 _ _ s2 rfl rfl⟩⟩
      · intro H2 L s
        rw [fm_some, ← Pl.textL_map] at L
        have lT : (Pl.textL ps).length = ps.length := by rw [Pl.textL_map, List.length_map]
        refine ⟨_, D, Pl.textL ps, rfl, rfl, .inl (SqL.of (Lst.strs.mp L)), ?_, ?_⟩
        · have : (" " : Str).length = 1 := by decide +kernel
          rw [this, lT]
          have := fit.1.2
          omega
        · have e2 : (("( " : Str) ++ Txt.join (" " : Str) (Pl.textL ps)).length + (" )" : Str).length = (Pl.node ps).text.length := by
            rw [Pl.text, str_len, str_len, str_len, tl_append (("( " : Str) ++ _), List.length_append]
          have e1 : ("( " : Str).length + (Txt.join (" " : Str) (Pl.textL ps)).length = (("( " : Str) ++ Txt.join (" " : Str) (Pl.textL ps)).length := by
            rw [str_len, str_len, str_len, tl_append, List.length_append]
          have rn : (Pl.node ps).runs = Pl.runsL ps := by rw [Pl.runs]
          rw [rn] at tlen
          refine ⟨_, _, rfl, rfl, szle (by rw [e1]; omega), _, _, rfl, rfl, szle (by rw [e2]; omega), ?_⟩
          exact k H2 s
abbrev N_written_plan : List Str := ["lengths", "ways", "plan"]
abbrev P_written_plan : List Str := ["lengths", "ways", "plan"]
def sp_written_plan (K : PySem.W.Frag) : Sp := fun vs H Q E => match vs with
  | [lv, wv, pv] => ∃ (l : Addr) (ls : List Int) (w : Nat) (pl : Pl), lv = .ref l ∧ H l = some (.lst (ls.map V.int)) ∧ GoodLens ls ∧ wv = .int (w : Int) ∧ 2 ≤ w ∧ w ≤ 6 ∧ PlR H pv pl ∧ pl.fits w = true ∧ pl.runs.Perm (rng 0 ls.length) ∧ ∀ H', Same H H' → Q (.str pl.text) H'
  | _ => False
def t_written_plan (K : PySem.W.Frag) (E : XK) : TS := (tSeq (tDrop (tCall (sp_cost K) [] E (tCons (tVar 0) (tCons (tVar 1) (tCons (tVar 2) tNil)))))
  (tRet (tCall (sp_text_of K) [] E (tCons (tVar 2) tNil))))
theorem pure_written_plan {K : PySem.W.Frag} : ∀ vs H Q E, sp_written_plan K vs H Q E → t_written_plan K E { nx := fun _ H' => Q .non H', rt := Q } (start N_written_plan vs) H := by
  intro vs H Q E hyp
  match vs, hyp with
  | [lv, wv, pv], hyp =>
    obtain ⟨l, ls, w, pl, rfl, hl, g, rfl, w2, w6, hp, fit, pm, k⟩ := hyp
    have rl := pm.length_eq
    rw [rng_len] at rl
    have g4 := g.le
    have dp := Pl.deep pl fit
    refine ⟨_, rfl, _, rfl, _, rfl, l, ls, w, pl, rfl, hl, g, rfl, w2, w6, hp, fit, pm, fun H1 s1 => ?_⟩
    exact ⟨_, rfl, pl, PlR.st _ _ _ _ (TupLe.same s1) hp, by omega, Pl.fits_mono (by omega) pl fit, fun r hr => (by
      have := rng_in (pm.mem_iff.mp hr)
      constructor <;> omega), by omega, fun H2 s2 => k H2 (s1.trans s2)⟩
theorem num_ne {n : Nat} (h : n < 100) : numS n ≠ ("(" : Str) ∧ numS n ≠ (")" : Str) ∧ numS n ≠ ("" : Str) := by
  have : ∀ n : Nat, n < 100 → numS n ≠ ("(" : Str) ∧ numS n ≠ (")" : Str) ∧ numS n ≠ ("" : Str) := by decide +kernel
  exact this n h
theorem Pl.first {p : Pl} (hr : ∀ r ∈ p.runs, 0 ≤ r ∧ r < 100) : ∃ w r, p.words = w :: r ∧ w ≠ (")" : Str) := by
  cases p with
  | leaf n =>
    obtain ⟨h0, h1⟩ := hr n (by simp [Pl.runs])
    have e : n = ((n.toNat : Nat) : Int) := by omega
    refine ⟨numS n, [], by rw [Pl.words], ?_⟩
    rw [e]
    exact (num_ne (by omega)).2.1
  | node ps => exact ⟨"(", _, by rw [Pl.words], by decide +kernel⟩
theorem dec_str {a b : Str} : decide (V.str a = V.str b) = decide (a = b) := by
  by_cases z : a = b
  · rw [z, decide_eq_true rfl, decide_eq_true rfl]
  · rw [decide_eq_false z, decide_eq_false fun y => z (by injection y)]
end Rs

namespace Rs
open PySem PySem.Spec PyProof.Rows L2
open _root_.TL
theorem sp_chars : tl (" " : Str) = [32] := by decide +kernel
mutual
theorem Pl.no_blank : ∀ (p : Pl), (∀ r ∈ p.runs, 0 ≤ r ∧ r < 100) → ∀ w ∈ p.words, 32 ∉ tl w ∧ w.length ≤ 2
  | .leaf n, hr, w, hw => by
    rw [Pl.words, List.mem_singleton] at hw
    subst hw
    obtain ⟨h0, h1⟩ := hr n (by simp [Pl.runs])
    have en : n = ((n.toNat : Nat) : Int) := by omega
    obtain ⟨a, b, c⟩ := num_facts (n := n.toNat) (by omega)
    rw [← en] at a b c
    exact ⟨fun z => by have := c 32 z; omega, a⟩
  | .node ps, hr, w, hw => by
    rw [Pl.words] at hw
    rw [Pl.runs] at hr
    rcases List.mem_cons.mp hw with e | hw
    · rw [e]; exact ⟨by decide +kernel, by decide +kernel⟩
    · rcases List.mem_append.mp hw with hw | hw
      · exact Pl.no_blankL ps hr w hw
      · rw [List.mem_singleton] at hw
        rw [hw]; exact ⟨by decide +kernel, by decide +kernel⟩
theorem Pl.no_blankL : ∀ (ps : List Pl), (∀ r ∈ Pl.runsL ps, 0 ≤ r ∧ r < 100) → ∀ w ∈ Pl.wordsL ps, 32 ∉ tl w ∧ w.length ≤ 2
  | [], _, w, hw => by simp [Pl.wordsL] at hw
  | p :: ps, hr, w, hw => by
    rw [Pl.wordsL] at hw
    rw [Pl.runsL] at hr
    rcases List.mem_append.mp hw with hw | hw
    · exact Pl.no_blank p (fun r h => hr r (List.mem_append_left _ h)) w hw
    · exact Pl.no_blankL ps (fun r h => hr r (List.mem_append_right _ h)) w hw
end
theorem sum_le {α : Type} {f : α → Nat} {n : Nat} : ∀ {l : List α}, (∀ x ∈ l, f x ≤ n) → (l.map f).sum ≤ l.length * n
  | [], _ => by simp
  | x :: l, h => by
    have a := h x (List.mem_cons_self ..)
    have b := sum_le (l := l) fun y hy => h y (List.mem_cons_of_mem _ hy)
    rw [List.map_cons, List.sum_cons, List.length_cons, Nat.succ_mul]
    omega
theorem split_words {w : Nat} {p : Pl} (hf : p.fits w = true) (hr : ∀ r ∈ p.runs, 0 ≤ r ∧ r < 100) : Txt.split p.text (" " : Str) = p.words := by
  rw [← Pl.join_eq hf]
  exact split_join (y := (" " : Str)) (s := 32) (S := []) sp_chars (by decide +kernel) (Pl.words_ne p) fun x hx => (Pl.no_blank p hr x hx).1
abbrev N_written_order : List Str := ["kinds", "order", "column", "way"]
abbrev P_written_order : List Str := ["kinds", "order"]
open _root_.TL
def partS (t : Nat × Bool) : Str := (numS t.1 ++ (" " : Str)) ++ wayS t.2
def ordS (o : Ord) : Str := Txt.join (", " : Str) (o.map partS)
def sp_written_order (K : PySem.W.Frag) : Sp := fun vs H Q E => match vs with
  | [kv, ov] => ∃ ks o lo, KindsAt H kv ks ∧ GoodKinds ks ∧ ov = .ref lo ∧ Lst TurnAt H lo o ∧ GoodOrd ks o ∧ ∀ H', Same H H' → Q (.str (ordS o)) H'
  | _ => False
def t_written_order (K : PySem.W.Frag) (E : XK) : TS := (tSeq (tDrop (tCall (sp_need_kinds K) [] E (tCons (tVar 0) tNil)))
  (tSeq (tDrop (tCall (sp_need_order K) [] E (tCons (tVar 0) (tCons (tVar 1) tNil))))
   (tRet (tM1 (xJoin K) (tC (.str ", ")) (tLc (iList K (tVar 1)) (gTup K 2 (gCons (gName 2) (gCons (gName 3) gNil))) tYes (tOp xAddS (tOpC xAddS (tCB1 xStr (tVar 2)) (.str " ")) (tVar 3)) [2, 3])))))
theorem part_len {t : Nat × Bool} (h : t.1 < 100) : (numS t.1).length ≤ 2 ∧ (numS t.1 ++ (" " : Str)).length ≤ 3 ∧ (partS t).length ≤ 7 := by
  have a := (num_facts h).1
  have b : (numS t.1 ++ (" " : Str)).length = (numS t.1).length + 1 := by
    rw [str_len, tl_append, List.length_append, ← str_len]
    rfl
  have w : (wayS t.2).length ≤ 4 := by cases t.2 <;> decide +kernel
  have c : (partS t).length = (numS t.1 ++ (" " : Str)).length + (wayS t.2).length := by
    unfold partS
    rw [str_len, tl_append (numS t.1 ++ (" " : Str)), List.length_append, ← str_len, ← str_len]
  omega
theorem pure_written_order {K : PySem.W.Frag} : ∀ vs H Q E, sp_written_order K vs H Q E → t_written_order K E { nx := fun _ H' => Q .non H', rt := Q } (start N_written_order vs) H := by
  intro vs H Q E hyp
  match vs, hyp with
  | [kv, ov], hyp =>
    obtain ⟨ks, o, lo, hk, gk, rfl, Lo, go, k⟩ := hyp
    have hol := go.len gk.le
    have hks := gk.le
    refine ⟨_, rfl, ks, hk, gk, fun H1 s1 => ?_⟩
    refine ⟨_, rfl, _, rfl, ks, o, hk.mono (TupLe.same s1), ⟨lo, rfl, Lo.same TurnAt.st s1⟩, go, by omega, fun H2 s2 => ?_⟩
    have s02 := s1.trans s2
    obtain ⟨tv, eo, po⟩ := Lo.same TurnAt.st s02
    refine ⟨⟨_, rfl⟩, _, rfl, lo, rfl, ⟨_, SqL.of eo⟩, fun D hD => ?_⟩
    refine lcm_list (S := StrAt) (fun t : Nat × Bool => some (partS t)) StrAt.st eo po hD ?_ (by omega) ?_
    · intro j v t H' ht hj r s skip put
      obtain ⟨a, rfl, ea⟩ := r
      have hc := go.col t (List.mem_of_getElem? ht)
      obtain ⟨l1, l2, l3⟩ := part_len (t := t) (by omega)
      have w : (wayS t.2).length ≤ 4 := by cases t.2 <;> decide +kernel
      have l1b : (" " : Str).length = 1 := by decide +kernel
      refine ⟨a, _, rfl, SqT.of (s _ _ ea), rfl, _, _, rfl, _, _, rfl, rfl, rfl, lc_yes ⟨_, rfl, (t.1 : Int), rfl, log_small (by omega) (by omega), _, _, rfl, rfl, szle (by have : (Str.ofString (toString ((t.1 : Nat) : Int))).length ≤ 2 := l1; omega), _, rfl, _, _, rfl, rfl, szle (by have : (Str.ofString (toString ((t.1 : Nat) : Int)) ++ (" " : Str)).length ≤ 3 := l2; omega), put H' _ _ (Same.refl _) rfl rfl⟩⟩
    · intro H3 L s3
      rw [fm_some] at L
      refine ⟨_, D, o.map partS, rfl, rfl, .inl (SqL.of (Lst.strs.mp L)), ?_, k H3 (s02.trans s3)⟩
      have e2 : (", " : Str).length = 2 := by decide +kernel
      have e3 : ((o.map partS).map (·.length)).sum ≤ o.length * 7 := by
        rw [List.map_map]
        exact sum_le fun t ht => (part_len (t := t) (by have := go.col t ht; omega)).2.2
      rw [e2, List.length_map]
      omega
open _root_.TL
theorem ord_len {o : Ord} (hcol : ∀ t ∈ o, t.1 < 100) (h : o.length ≤ 4) : (ordS o).length ≤ 100 := by
  unfold ordS
  rw [str_len, tl_join']
  have := joinL_len (s := tl (", " : Str)) ((o.map partS).map tl)
  have e1 : (((o.map partS).map tl).map List.length).sum ≤ o.length * 7 := by
    rw [List.map_map, List.map_map]
    exact sum_le (f := (List.length ∘ tl) ∘ partS) fun t ht => by
      have := (part_len (t := t) (hcol t ht)).2.2
      rw [str_len] at this
      exact this
  have e2 : (tl (", " : Str)).length = 2 := by decide +kernel
  rw [e2, List.length_map, List.length_map] at this
  omega
end Rs

namespace Rs
open PySem PySem.Spec PyProof.Rows L2
abbrev N_law_lengths : List Str := ["_law_box", "_law_most", "_law_found", "_law_k", "_law_some"]
abbrev P_law_lengths : List Str := ["_law_box", "_law_most"]
def sp_law_lengths (K : PySem.W.Frag) : Sp := fun vs H Q E => match vs with
  | [b, m] => ∃ a l n, b = .ref a ∧ m = .int n ∧ 1 ≤ n ∧ n ≤ 40 ∧ Box H a l ∧ ∀ f (ls : List Int) H', H f = none → H' f = some (.lst (ls.map V.int)) → GoodLens ls → ls.length ≤ n → Box H' a l → But [a, l] H H' → Q (.ref f) H'
  | _ => False
def t_law_lengths (K : PySem.W.Frag) (E : XK) : TS := (tSeq (tAsg (tLst tNil) (gName 2))
  (tSeq (tFor (iRng1 (tCons (tOpD xAdd (.int 1) (tCall (sp_law_take K) [] E (tCons (tVar 0) (tCons (tVar 1) tNil)))) tNil)) (gName 3) 
     (tSeq (tAsg (tLst (tCons (tOpD xAdd (.int 1) (tCall (sp_law_take K) [] E (tCons (tVar 0) (tConsC (.int 9) tNil)))) (tCons (tOpD xAdd (.int 1) (tCall (sp_law_take K) [] E (tCons (tVar 0) (tConsC (.int 2) tNil)))) (tCons (tOpC xAdd (tVar 3) (.int 1)) (tCons (tOpD xAdd (.int 1) (tCall (sp_law_take K) [] E (tCons (tVar 0) (tCons (tOpC xPow (tC (.int 10)) (.int 6)) tNil)))) (tCons (tOpC xPow (tC (.int 10)) (.int 6)) tNil)))))) (gName 4))
     (tDrop (tBM K "list" rAppend (tVar 2) (tCons (tOp (rIxL K) (tVar 4) (tOp (rIxL K) (tLst (tConsC (.int 0) (tConsC (.int 0) (tConsC (.int 1) (tConsC (.int 2) (tConsC (.int 3) (tConsC (.int 4) tNil))))))) (tCall (sp_law_take K) [] E (tCons (tVar 0) (tConsC (.int 6) tNil))))) tNil)))))
   (tRet (tVar 2))))
theorem pure_law_lengths {K : PySem.W.Frag} : ∀ vs H Q E, sp_law_lengths K vs H Q E → t_law_lengths K E { nx := fun _ H' => Q .non H', rt := Q } (start N_law_lengths vs) H := by
  intro vs H Q E hyp
  match vs, hyp with
  | [b, m], hyp =>
    obtain ⟨a, l, n, rfl, rfl, n1, n2, B, k⟩ := hyp
    obtain ⟨ns, st, ha, hl, _⟩ := B.ex
    refine ⟨sz0, fun f hf => ?_⟩
    have fa := (ne_of_none ha hf).symm
    have fl := (ne_of_none hl hf).symm
    refine ⟨_, rfl, _, rfl, a, l, _, rfl, rfl, by omega, by omega, B.same (Rs.Same.new hf), fun r H1 r0 r1 B1 k1 => ⟨_, _, rfl, rfl, _, rfl, by omega, by omega, ?_⟩⟩
    have kk : But [a, l] H H1 := (But.same (Rs.Same.new hf)).trans k1
    have ef := k1 _ _ upd_same (nn fa fl)
    refine for_range (lo := 0) (n := (1 + r).toNat) (fun i σ H' => ∃ (ls : List Int) (x3 x4 : Option V), σ = [some (.ref a), some (.int n), some (.ref f), x3, x4] ∧ H' f = some (.lst (ls.map V.int)) ∧ ls.length = i ∧ (∀ x ∈ ls, 1 ≤ x ∧ x ≤ 1000000) ∧ Box H' a l ∧ But [a, l] H H') ⟨[], none, none, rfl, ef, rfl, by simp, B1, kk⟩ ?_ ?_
    · rintro i σ H2 hi ⟨ls, x3, x4, rfl, ef2, hlen, hall, B2, k2⟩
      refine ⟨_, rfl, a, l, _, rfl, rfl, by decide, by decide, B2, fun g1 H3 g10 g11 B3 k3 => ⟨_, _, rfl, rfl, ?_⟩⟩
      refine ⟨_, rfl, a, l, _, rfl, rfl, by decide, by decide, B3, fun g2 H4 g20 g21 B4 k4 => ⟨_, _, rfl, rfl, ?_⟩⟩
      refine ⟨_, rfl, _, _, rfl, rfl, ?_⟩
      refine ⟨_, rfl, _, _, rfl, rfl, ⟨by decide, by decide, by decide⟩, a, l, _, rfl, rfl, by decide, by decide, B4, fun g3 H5 g30 g31 B5 k5 => ⟨_, _, rfl, rfl, ?_⟩⟩
      refine ⟨_, _, rfl, rfl, ⟨by decide, by decide, by decide⟩, szle (by show 5 ≤ 100000; decide), fun s hs => ?_⟩
      have k25 := (k3.trans k4).trans k5
      have s6 : Same H5 (upd H5 s (.lst [.int (1 + g1), .int (1 + g2), .int (0 + (i : Int) + 1), .int (1 + g3), .int (10 ^ (6 : Int).toNat)])) := Rs.Same.new hs
      have es : upd H5 s (.lst [.int (1 + g1), .int (1 + g2), .int (0 + (i : Int) + 1), .int (1 + g3), .int (10 ^ (6 : Int).toNat)]) s = some _ := upd_same
      generalize upd H5 s (.lst [.int (1 + g1), .int (1 + g2), .int (0 + (i : Int) + 1), .int (1 + g3), .int (10 ^ (6 : Int).toNat)]) = H6 at s6 es ⊢
      have B6 := B5.same s6
      have k26 := k25.trans (But.same s6)
      obtain ⟨_, _, ha5, hl5, _⟩ := B5.ex
      have sa := (ne_of_none ha5 hs).symm
      have sl := (ne_of_none hl5 hs).symm
      have ef6 := k26 _ _ ef2 (nn fa fl)
      refine ⟨_, rfl, .inl ⟨rfl, _, SqL.of ef6⟩, _, rfl, szle (by show 6 ≤ 100000; decide), fun q hq => ?_⟩
      have s7 : Same H6 (upd H6 q (.lst [.int 0, .int 0, .int 1, .int 2, .int 3, .int 4])) := Rs.Same.new hq
      have eq : upd H6 q (.lst [.int 0, .int 0, .int 1, .int 2, .int 3, .int 4]) q = some _ := upd_same
      generalize upd H6 q (.lst [.int 0, .int 0, .int 1, .int 2, .int 3, .int 4]) = H7 at s7 eq ⊢
      have B7 := B6.same s7
      obtain ⟨_, _, ha6, hl6, _⟩ := B6.ex
      have qa := (ne_of_none ha6 hq).symm
      have ql := (ne_of_none hl6 hq).symm
      refine ⟨_, rfl, a, l, _, rfl, rfl, by decide, by decide, B7, fun g4 H8 g40 g41 B8 k8 => ?_⟩
      have eq8 := k8 _ _ eq (nn qa ql)
      have es8 := k8 _ _ (s7 _ _ es) (nn sa sl)
      have k28 := (k26.trans (But.same s7)).trans k8
      have ef8 := k28 _ _ ef2 (nn fa fl)
      have fin : ∀ (i1 : Nat) (x : Int), ([V.int 0, .int 0, .int 1, .int 2, .int 3, .int 4] : List V)[g4.toNat]? = some (.int (i1 : Int)) → ([.int (1 + g1), .int (1 + g2), .int (0 + (i : Int) + 1), .int (1 + g3), .int (10 ^ (6 : Int).toNat)] : List V)[i1]? = some (.int x) → 1 ≤ x → x ≤ 1000000 →
          rIxL K (.ref q) (.int g4) H8 (fun w H9 => rIxL K (.ref s) w H9 (fun v H10 => rAppend (.ref f) [v] H10 fun _ H11 => ∃ (ls : List Int) (x3 x4 : Option V), [some (V.ref a), some (V.int n), some (V.ref f), some (V.int (0 + (i : Int))), some (V.ref s)] = [some (V.ref a), some (V.int n), some (V.ref f), x3, x4] ∧ H11 f = some (.lst (ls.map V.int)) ∧ ls.length = i + 1 ∧ (∀ x ∈ ls, 1 ≤ x ∧ x ≤ 1000000) ∧ Box H11 a l ∧ But [a, l] H H11)) := fun i1 x e1 e2 x1 x2 => by
        refine ixL eq8 (j := g4.toNat) (by omega) e1 (ixL es8 (j := i1) rfl e2 ⟨_, _, _, rfl, rfl, ef8, szlt (by rw [List.length_map]; omega), ls ++ [x], _, _, rfl, by rw [upd_same, List.map_append] <;> rfl, by simp [hlen], fun y hy => ?_, B8.keep (fun o e => up e fa.symm) (fun o e => up e fl.symm), (k2.trans k28).mut hf⟩)
        rcases List.mem_append.mp hy with hy | hy
        · exact hall y hy
        · rw [List.mem_singleton.mp hy]
          exact ⟨x1, x2⟩
      have pick : g4 = 0 ∨ g4 = 1 ∨ g4 = 2 ∨ g4 = 3 ∨ g4 = 4 ∨ g4 = 5 := by omega
      have p10 : ((10 : Int) ^ (6 : Int).toNat) = 1000000 := by decide
      rcases pick with e | e | e | e | e | e
      · subst e; exact fin 0 _ rfl rfl (by omega) (by omega)
      · subst e; exact fin 0 _ rfl rfl (by omega) (by omega)
      · subst e; exact fin 1 _ rfl rfl (by omega) (by omega)
      · subst e; exact fin 2 _ rfl rfl (by omega) (by omega)
      · subst e; exact fin 3 _ rfl rfl (by omega) (by omega)
      · subst e; exact fin 4 _ rfl rfl (by rw [p10]; decide) (by rw [p10]; decide)
    · rintro σ H2 ⟨ls, x3, x4, rfl, ef2, hlen, hall, B2, k2⟩
      exact ⟨_, rfl, k f ls H2 hf ef2 ⟨by omega, by omega, hall⟩ (by omega) B2 k2⟩
abbrev N_law_plan : List Str := ["_law_box", "_law_runs", "_law_ways", "_law_left", "_law_many", "_law_some", "_law_k"]
abbrev P_law_plan : List Str := ["_law_box", "_law_runs", "_law_ways"]
def sp_law_plan (K : PySem.W.Frag) : Sp := fun vs H Q E => match vs with
  | [b, rv, wv] => ∃ (a l lr : Addr) (ids : List Int) (w : Nat), b = .ref a ∧ rv = .ref lr ∧ H lr = some (.lst (ids.map V.int)) ∧ wv = .int (w : Int) ∧ 2 ≤ w ∧ w ≤ 6 ∧ 1 ≤ ids.length ∧ ids.length ≤ 40 ∧ Box H a l ∧
    ∀ v (pl : Pl) H', PlR H' v pl → pl.fits w = true → pl.runs.Perm ids → Box H' a l → But [a, l] H H' → Q v H'
  | _ => False
def t_law_plan (K : PySem.W.Frag) (E : XK) : TS := (tSeq (tAsg (tCB1 (xList K) (tVar 1)) (gName 3))
  (tSeq (tWhile (tTest (tOpC xGt (tCB1 (xLen K) (tVar 3)) (.int 1))) 
     (tSeq (tAsg (tCB xMin2 (tCons (tCB1 (xLen K) (tVar 3)) (tCons (tOpD xAdd (.int 2) (tCall (sp_law_take K) [] E (tCons (tVar 0) (tCons (tOpC xSub (tVar 2) (.int 1)) tNil)))) tNil))) (gName 4))
     (tSeq (tAsg (tLc (iRng1 (tCons (tVar 4) tNil)) (gName 6) tYes (tBM K "list" rPopAt (tVar 3) (tCons (tCall (sp_law_take K) [] E0 (tCons (tVar 0) (tCons (tCB1 (xLen K) (tVar 3)) tNil))) tNil)) [6]) (gName 5))
      (tDrop (tBM K "list" xInsert (tVar 3) (tCons (tCall (sp_law_take K) [] E (tCons (tVar 0) (tCons (tOpC xAdd (tCB1 (xLen K) (tVar 3)) (.int 1)) tNil))) (tCons (tCB1 (xTuple K) (tVar 5)) tNil)))))))
   (tRet (tOpC (rIxL K) (tVar 3) (.int 0)))))
theorem leaf_paired {H : Hp} : ∀ ids : List Int, Paired (PlR H) (ids.map V.int) (ids.map Pl.leaf)
  | [] => .nil
  | x :: ids => .cons (.leaf x) (leaf_paired ids)
theorem leaf_runs : ∀ ids : List Int, Pl.runsL (ids.map Pl.leaf) = ids
  | [] => rfl
  | x :: ids => by rw [List.map_cons, Pl.runsL, leaf_runs ids, Pl.runs]; rfl
theorem runsL_app (a b : List Pl) : Pl.runsL (a ++ b) = Pl.runsL a ++ Pl.runsL b := by
  rw [Pl.runsL_map, Pl.runsL_map, Pl.runsL_map, List.map_append, List.flatten_append]
theorem runsL_perm {a b : List Pl} (p : a.Perm b) : (Pl.runsL a).Perm (Pl.runsL b) := by
  rw [Pl.runsL_map, Pl.runsL_map]
  exact (p.map _).flatten
theorem erase_perm {α : Type} : ∀ {l : List α} {i : Nat} (h : i < l.length), (l[i] :: l.eraseIdx i).Perm l
  | [], _, h => by simp at h
  | x :: l, 0, _ => .refl _
  | x :: l, i + 1, h => by
    have h' : i < l.length := by simpa using h
    show (l[i] :: x :: l.eraseIdx i).Perm (x :: l)
    exact (List.Perm.swap ..).trans ((erase_perm h').cons x)
theorem pure_law_plan {K : PySem.W.Frag} : ∀ vs H Q E, sp_law_plan K vs H Q E → t_law_plan K E { nx := fun _ H' => Q .non H', rt := Q } (start N_law_plan vs) H := by
  intro vs H Q E hyp
  match vs, hyp with
  | [b, rv, wv], hyp =>
    obtain ⟨a, l, lr, ids, w, rfl, rfl, hlr, rfl, w2, w6, i1, i2, B, k⟩ := hyp
    obtain ⟨ns, st, ha, hl, _⟩ := B.ex
    refine ⟨_, rfl, lr, _, rfl, .inl (SqL.of hlr), fun f hf => ?_⟩
    have fa := (ne_of_none ha hf).symm
    have fl := (ne_of_none hl hf).symm
    refine ⟨fun m σ H' => ∃ (vs : List V) (ps : List Pl) (x4 x5 x6 : Option V), m = ps.length ∧ σ = [some (.ref a), some (.ref lr), some (.int (w : Int)), some (.ref f), x4, x5, x6] ∧ H' f = some (.lst vs) ∧ Paired (PlR H') vs ps ∧ 1 ≤ ps.length ∧ ps.length ≤ 40 ∧ (∀ p ∈ ps, p.fits w = true) ∧ (Pl.runsL ps).Perm ids ∧ Box H' a l ∧ But [a, l] H H',
      ⟨_, _, ids.map Pl.leaf, none, none, none, rfl, rfl, upd_same, leaf_paired ids, by simpa using i1, by simpa using i2, fun p hp => ?_, by rw [leaf_runs], B.same (Rs.Same.new hf), But.same (Rs.Same.new hf)⟩, ?_⟩
    · obtain ⟨x, _, rfl⟩ := List.mem_map.mp hp
      rw [Pl.fits]
    rintro m σ H1 ⟨vs, ps, x4, x5, x6, rfl, rfl, ef, pp, p1, p40, fit, pm, B1, k1⟩
    have lp := pp.length
    refine ⟨_, rfl, lenL ef rfl ⟨_, _, rfl, rfl, _, rfl, ?_⟩⟩
    by_cases hgt : 1 < ps.length
    · rw [decide_eq_true (show (1 : Int) < ((vs.length : Nat) : Int) by omega)]
      refine ⟨fun σ H' => ∃ (vs : List V) (ps' : List Pl) (x4 x5 x6 : Option V), ps'.length < ps.length ∧ σ = [some (.ref a), some (.ref lr), some (.int (w : Int)), some (.ref f), x4, x5, x6] ∧ H' f = some (.lst vs) ∧ Paired (PlR H') vs ps' ∧ 1 ≤ ps'.length ∧ ps'.length ≤ 40 ∧ (∀ p ∈ ps', p.fits w = true) ∧ (Pl.runsL ps').Perm ids ∧ Box H' a l ∧ But [a, l] H H', ?_, ?_⟩
      · rintro σ H' ⟨vs', ps', x4, x5, x6, q1, q2⟩
        exact ⟨_, q1, vs', ps', x4, x5, x6, rfl, q2⟩
      refine ⟨_, rfl, lenL ef rfl ⟨_, rfl, _, rfl, _, _, rfl, rfl, a, l, _, rfl, rfl, by omega, by omega, B1, fun r H2 r0 r1 B2 k2 => ⟨_, _, rfl, rfl, _, _, rfl, ?_⟩⟩⟩
      obtain ⟨mn, emn, m2, mw, mle⟩ : ∃ mn : Nat, (if 2 + r < ((vs.length : Nat) : Int) then 2 + r else ((vs.length : Nat) : Int)) = (mn : Int) ∧ 2 ≤ mn ∧ mn ≤ w ∧ mn ≤ ps.length := by
        split
        · exact ⟨(2 + r).toNat, by omega, by omega, by omega, by omega⟩
        · exact ⟨ps.length, by omega, by omega, by omega, by omega⟩
      rw [emn]
      have ef2 := k2 _ _ ef (nn fa fl)
      have pp2 := Paired.tl PlR.st (B1.tup k2) pp
      have k02 := k1.trans k2
      refine ⟨_, rfl, _, rfl, by omega, by omega, fun D hD => ?_⟩
      obtain ⟨_, _, ha2, hl2, _⟩ := B2.ex
      have Da := (ne_of_none ha2 hD).symm
      have Dl := (ne_of_none hl2 hD).symm
      have Df := (ne_of_none ef2 hD).symm
      have hD0 : H D = none := none_of_but k02 hD (nn Da Dl)
      refine lc_range (lo := 0) (n := (mn : Int).toNat) (fun i H' => ∃ (vs : List V) (ps' : List Pl) (ws : List V) (qs : List Pl), H' f = some (.lst vs) ∧ Paired (PlR H') vs ps' ∧ H' D = some (.lst ws) ∧ Paired (PlR H') ws qs ∧ ps'.length + i = ps.length ∧ qs.length = i ∧ (∀ p ∈ ps', p.fits w = true) ∧ (∀ p ∈ qs, p.fits w = true) ∧ (Pl.runsL ps' ++ Pl.runsL qs).Perm ids ∧ Box H' a l ∧ But [a, l] H H')
        ⟨vs, ps, [], [], un ef2 hD, Paired.tl PlR.st (TupLe.new hD) pp2, upd_same, .nil, rfl, rfl, fit, by simp, by simpa [Pl.runsL] using pm, B2.same (Rs.Same.new hD), k02.new hD⟩ ?_ ?_
      · rintro i H3 hi ⟨vs3, ps3, ws3, qs3, ef3, pp3, eD3, qq3, l3, lq3, f3, g3, pm3, B3, k3⟩
        have lv3 := pp3.length
        have lw3 := qq3.length
        refine ⟨rfl, lc_yes ⟨_, rfl, .inl ⟨rfl, _, SqL.of ef3⟩, _, rfl, _, rfl, lenL ef3 rfl ⟨a, l, _, rfl, rfl, by omega, by omega, B3, fun g H4 g0 g1 B4 k4 => ?_⟩⟩⟩
        obtain ⟨j, rfl⟩ : ∃ j : Nat, g = (j : Int) := ⟨g.toNat, by omega⟩
        have hjv : j < vs3.length := by omega
        have ef4 := k4 _ _ ef3 (nn fa fl)
        have eD4 := k4 _ _ eD3 (nn Da Dl)
        have t4 := B3.tup k4
        have pp4 := Paired.tl PlR.st t4 pp3
        have qq4 := Paired.tl PlR.st t4 qq3
        obtain ⟨pj, hpj, rj⟩ := P2.get pp4 (List.getElem?_eq_getElem hjv)
        have hjp : j < ps3.length := by omega
        have epj : pj = ps3[j] := by rw [List.getElem?_eq_getElem hjp] at hpj; injection hpj with z; exact z.symm
        subst epj
        refine ⟨f, vs3, _, j, vs3[j], rfl, rfl, ef4, by omega, by omega, seqIx hjv, List.getElem?_eq_getElem hjv, ?_⟩
        have t5 : TupLe H4 (upd H4 f (.lst (vs3.eraseIdx j))) := (TupLe.refl _).list ef4
        have eD5 : upd H4 f (.lst (vs3.eraseIdx j)) D = some (.lst ws3) := up eD4 Df
        have t6 : TupLe (upd H4 f (.lst (vs3.eraseIdx j))) (upd (upd H4 f (.lst (vs3.eraseIdx j))) D (.lst (ws3 ++ [vs3[j]]))) := (TupLe.refl _).list eD5
        have t46 := t5.trans t6
        refine ⟨ws3, eD5, szlt (by omega), vs3.eraseIdx j, ps3.eraseIdx j, ws3 ++ [vs3[j]], qs3 ++ [ps3[j]], up upd_same Df.symm, Paired.tl PlR.st t46 (P2.erase j pp4), upd_same, Paired.tl PlR.st t46 (P2.app qq4 (P2.one rj)), by rw [List.length_eraseIdx_of_lt hjp]; omega, by simp [lq3], fun p hp => f3 p (List.mem_of_mem_eraseIdx hp), fun p hp => ?_, ?_, (B4.keep (fun o e => up e fa.symm) (fun o e => up e fl.symm)).keep (fun o e => up e Da.symm) (fun o e => up e Dl.symm), ((k3.trans k4).mut hf).mut hD0⟩
        · rcases List.mem_append.mp hp with hp | hp
          · exact g3 p hp
          · rw [List.mem_singleton.mp hp]
            exact f3 _ (List.getElem_mem hjp)
        · rw [← runsL_app] at pm3 ⊢
          refine List.Perm.trans (runsL_perm ?_) pm3
          have e1 : (ps3.eraseIdx j ++ (qs3 ++ [ps3[j]])).Perm (ps3[j] :: (ps3.eraseIdx j ++ qs3)) := by
            rw [← List.append_assoc]
            exact List.perm_append_comm
          exact e1.trans (List.Perm.append_right qs3 (erase_perm hjp))
      · rintro H3 ⟨vs3, ps3, ws3, qs3, ef3, pp3, eD3, qq3, l3, lq3, f3, g3, pm3, B3, k3⟩
        have lv3 := pp3.length
        have lw3 := qq3.length
        refine ⟨_, rfl, .inl ⟨rfl, _, SqL.of ef3⟩, _, rfl, _, rfl, lenL ef3 rfl ⟨_, _, rfl, rfl, a, l, _, rfl, rfl, by omega, by omega, B3, fun g H4 g0 g1 B4 k4 => ?_⟩⟩
        obtain ⟨j, rfl⟩ : ∃ j : Nat, g = (j : Int) := ⟨g.toNat, by omega⟩
        have ef4 := k4 _ _ ef3 (nn fa fl)
        have eD4 := k4 _ _ eD3 (nn Da Dl)
        have t4 := B3.tup k4
        have pp4 := Paired.tl PlR.st t4 pp3
        have qq4 := Paired.tl PlR.st t4 qq3
        refine ⟨_, rfl, D, ws3, rfl, .inl ⟨SqL.of eD4, fun t ht => ?_⟩⟩
        have s5 : Same H4 (upd H4 t (.tup ws3)) := Rs.Same.new ht
        have et : upd H4 t (.tup ws3) t = some (.tup ws3) := upd_same
        have k05 := ((k3.trans k4).new (o := .tup ws3) ht)
        generalize upd H4 t (.tup ws3) = H5 at s5 et k05 ⊢
        have ef5 := s5 _ _ ef4
        refine ⟨f, vs3, _, .ref t, rfl, rfl, ef5, szlt (by omega), by omega, by omega, ?_⟩
        have t6 : TupLe H5 (upd H5 f (.lst (vs3.take ((j : Int)).toNat ++ [V.ref t] ++ vs3.drop ((j : Int)).toNat))) := (TupLe.refl _).list ef5
        have t46 := (TupLe.same s5).trans t6
        have hj : (j : Int).toNat = j := by omega
        rw [hj] at t6 t46 ⊢
        have nodefit : (Pl.node qs3).fits w = true := by
          rw [Pl.fits, Pl.fitsL_all]
          simp only [Bool.and_eq_true, decide_eq_true_eq, List.all_eq_true]
          exact ⟨⟨by omega, by omega⟩, g3⟩
        have len : (ps3.take j ++ [Pl.node qs3] ++ ps3.drop j).length = ps3.length + 1 := by
          rw [List.length_append, List.length_append, List.length_take, List.length_drop, List.length_singleton]
          omega
        refine ⟨_, ps3.take j ++ [Pl.node qs3] ++ ps3.drop j, _, _, _, by omega, rfl, upd_same, P2.app (P2.app (Paired.tl PlR.st t46 (P2.take j pp4)) (P2.one (PlR.node (t6 _ _ et) (Paired.tl PlR.st t46 qq4)))) (Paired.tl PlR.st t46 (P2.drop j pp4)), by omega, by omega, fun p hp => ?_, ?_, (B4.same s5).keep (fun o e => up e fa.symm) (fun o e => up e fl.symm), k05.mut hf⟩
        · rcases List.mem_append.mp hp with hp | hp
          · rcases List.mem_append.mp hp with hp | hp
            · exact f3 p (List.mem_of_mem_take hp)
            · rw [List.mem_singleton.mp hp]
              exact nodefit
          · exact f3 p (List.mem_of_mem_drop hp)
        · refine List.Perm.trans ?_ pm3
          have e1 : (ps3.take j ++ [Pl.node qs3] ++ ps3.drop j).Perm (ps3 ++ [Pl.node qs3]) := by
            have : (ps3.take j ++ [Pl.node qs3] ++ ps3.drop j).Perm (ps3.take j ++ (ps3.drop j ++ [Pl.node qs3])) := by
              rw [List.append_assoc]
              exact List.Perm.append_left _ List.perm_append_comm
            rw [← List.append_assoc, List.take_append_drop] at this
            exact this
          have e2 := runsL_perm e1
          rw [runsL_app ps3] at e2
          have e3 : Pl.runsL [Pl.node qs3] = Pl.runsL qs3 := by
            rw [Pl.runsL, Pl.runsL, Pl.runs, List.append_nil]
          rw [e3] at e2
          exact e2
    · rw [decide_eq_false (show ¬ (1 : Int) < ((vs.length : Nat) : Int) by omega)]
      match ps, pp, p1, hgt, fit, pm with
      | [p], .cons (a := v) hp .nil, _, _, fit, pm =>
        refine ⟨_, rfl, ixL ef (j := 0) rfl rfl ?_⟩
        exact k v p H1 hp (fit p (by simp)) (by simpa [Pl.runsL] using pm) B1 k1
      | p :: q :: r, _, _, hgt, _, _ => exact absurd (by simp) hgt
end Rs

namespace Rs
open PySem PySem.Spec PyProof.Rows L2
open LamX
abbrev N_law_class : List Str := ["_law_e", "_law_kinds_here", "_law_words"]
abbrev P_law_class : List Str := ["_law_e"]
def t_law_class (K : PySem.W.Frag) (D a : Addr) (d : Option Addr) : TS := (tSeq (tAsg (tLst (tCons (tCB (rIsX K D a d) (tCons (tVar 0) (tConsC (.ref (He.ga K "BadKinds")) tNil))) (tCons (tCB (rIsX K D a d) (tCons (tVar 0) (tConsC (.ref (He.ga K "BadOrder")) tNil))) (tCons (tCB (rIsX K D a d) (tCons (tVar 0) (tConsC (.ref (He.ga K "BadRows")) tNil))) (tCons (tCB (rIsX K D a d) (tCons (tVar 0) (tConsC (.ref (He.ga K "BadRuns")) tNil))) tNil))))) (gName 1))
  (tSeq (tAsg (tOp rCat (tVar 1) (tLst (tCons (tCB (rIsX K D a d) (tCons (tVar 0) (tConsC (.ref (He.ga K "BadRoom")) tNil))) (tCons (tCB (rIsX K D a d) (tCons (tVar 0) (tConsC (.ref (He.ga K "BadLengths")) tNil))) (tCons (tCB (rIsX K D a d) (tCons (tVar 0) (tConsC (.ref (He.ga K "BadPlan")) tNil))) (tCons (tCB (rIsX K D a d) (tCons (tVar 0) (tConsC (.ref (He.ga K "BadPaper")) tNil))) tNil)))))) (gName 1))
   (tSeq (tAsg (tOp rCat (tVar 1) (tLst (tCons (tCB (rIsX K D a d) (tCons (tVar 0) (tConsC (.ref (He.ga K "BadCount")) tNil))) (tCons (tCB (rIsX K D a d) (tCons (tVar 0) (tConsC (.ref (He.ga K "BadBlock")) tNil))) (tCons (tCB (rIsX K D a d) (tCons (tVar 0) (tConsC (.ref (He.ga K "Stopped")) tNil))) (tCons (tCB (rIsX K D a d) (tCons (tVar 0) (tConsC (.ref (He.ga K "Shut")) tNil))) tNil)))))) (gName 1))
    (tSeq (tAsg (tOp rCat (tVar 1) (tLst (tCons (tCB (rIsX K D a d) (tCons (tVar 0) (tConsC (.ref (He.ga K "NotYet")) tNil))) (tCons (tCB (rIsX K D a d) (tCons (tVar 0) (tConsC (.ref (He.ga K "Empty")) tNil))) (tCons (tCB (rIsX K D a d) (tCons (tVar 0) (tConsC (.ref (He.ga K "BadText")) tNil))) tNil))))) (gName 1))
     (tSeq (tAsg (tLst (tConsC (.str "BadKinds") (tConsC (.str "BadOrder") (tConsC (.str "BadRows") (tConsC (.str "BadRuns") (tConsC (.str "BadRoom") (tConsC (.str "BadLengths") (tConsC (.str "BadPlan") (tConsC (.str "BadPaper") (tConsC (.str "BadCount") tNil)))))))))) (gName 2))
      (tSeq (tAsg (tOp rCat (tVar 2) (tLst (tConsC (.str "BadBlock") (tConsC (.str "Stopped") (tConsC (.str "Shut") (tConsC (.str "NotYet") (tConsC (.str "Empty") (tConsC (.str "BadText") tNil)))))))) (gName 2))
       (tRet (tIf (tAnd (tTest (tOpC rEq (tBM K "list" (xCount K) (tVar 1) (tConsC (.bl true) tNil)) (.int 1))) (tB (tCB (rIsX K D a d) (tCons (tVar 0) (tConsC (.ty "ValueError") tNil))))) (tOp (rIxL K) (tVar 2) (tBM K "list" (rIndex K) (tVar 1) (tConsC (.bl true) tNil))) (tC (.str ""))))))))))
theorem DictOk.same {d : Option Addr} {H H' : Hp} (h : DictOk d H) (s : Same H H') : DictOk d H' := fun dd e => let ⟨fs, q⟩ := h dd e; ⟨fs, s _ _ q⟩
def truths (x : Str) : List V := errNames.map fun y => V.bl (decide (x = y))
theorem names_nd : errNames.Nodup := by decide +kernel
theorem truths_flat (x : Str) : (truths x).all flatV = true := by
  unfold truths
  rw [List.all_map]
  exact List.all_eq_true.mpr fun _ _ => rfl
theorem eqV_t (b : Bool) : eqV (.bl b) (.bl true) = b := by cases b <;> rfl
theorem truths_one {x : Str} : ∀ {l : List Str}, x ∈ l → l.Nodup → (l.map fun y => V.bl (decide (x = y))).countP (fun z => eqV z (.bl true)) = 1
  | y :: l, h, nd => by
    rw [List.nodup_cons] at nd
    rw [List.map_cons, List.countP_cons, eqV_t]
    by_cases e : x = y
    · have z : (l.map fun y => V.bl (decide (x = y))).countP (fun z => eqV z (.bl true)) = 0 := by
        rw [List.countP_eq_zero]
        intro v hv
        obtain ⟨u, hu, rfl⟩ := List.mem_map.mp hv
        rw [eqV_t, decide_eq_true_eq]
        intro q
        exact nd.1 (by rw [← e, q]; exact hu)
      rw [z, decide_eq_true e]
      rfl
    · rw [truths_one ((List.mem_cons.mp h).resolve_left e) nd.2, decide_eq_false e]
      rfl
theorem does_law_class {K : PySem.W.Frag} {x : Str} {a : Addr} {d : Option Addr} {H : Hp} {Q : VK} (E : ErrIs K x) (dk : DictOk d H) (k : ∀ H', Same H H' → Q (.str x) H') : t_law_class K (He.ga K x) a d { nx := fun _ H' => Q .non H', rt := Q } (start N_law_class [.ref a]) H := by
  refine ⟨_, rfl, _, .ref (He.ga K "BadKinds"), _, rfl, fun _ h => h, E.k _ (by decide +kernel), dk, _, rfl, _, .ref (He.ga K "BadOrder"), _, rfl, fun _ h => h, E.k _ (by decide +kernel), dk, _, rfl, _, .ref (He.ga K "BadRows"), _, rfl, fun _ h => h, E.k _ (by decide +kernel), dk, _, rfl, _, .ref (He.ga K "BadRuns"), _, rfl, fun _ h => h, E.k _ (by decide +kernel), dk, szle (by show 4 ≤ 100000; decide), fun l1 h1 => ?_⟩
  generalize gX : upd _ l1 _ = H1
  have s1 := newS h1 gX
  have e1 := newE gX
  clear gX
  have s01 : Same H H1 := s1
  refine ⟨_, rfl, _, rfl, _, .ref (He.ga K "BadRoom"), _, rfl, fun _ h => h, E.k _ (by decide +kernel), (dk.same s01), _, rfl, _, .ref (He.ga K "BadLengths"), _, rfl, fun _ h => h, E.k _ (by decide +kernel), (dk.same s01), _, rfl, _, .ref (He.ga K "BadPlan"), _, rfl, fun _ h => h, E.k _ (by decide +kernel), (dk.same s01), _, rfl, _, .ref (He.ga K "BadPaper"), _, rfl, fun _ h => h, E.k _ (by decide +kernel), (dk.same s01), szle (by show 4 ≤ 100000; decide), fun l2 h2 => ?_⟩
  generalize gX : upd _ l2 _ = H2
  have s2 := newS h2 gX
  have e2 := newE gX
  clear gX
  refine ⟨l1, l2, [V.bl (decide (x = "BadKinds")), V.bl (decide (x = "BadOrder")), V.bl (decide (x = "BadRows")), V.bl (decide (x = "BadRuns"))], [V.bl (decide (x = "BadRoom")), V.bl (decide (x = "BadLengths")), V.bl (decide (x = "BadPlan")), V.bl (decide (x = "BadPaper"))], rfl, rfl, s2 _ _ e1, e2, szle (by show 4 + 4 ≤ 100000; decide), fun l3 h3 => ?_⟩
  generalize gX : upd _ l3 _ = H3
  have s3 := newS h3 gX
  have e3 := newE gX
  clear gX
  have s03 : Same H H3 := (s01.trans s2).trans s3
  refine ⟨_, rfl, _, rfl, _, .ref (He.ga K "BadCount"), _, rfl, fun _ h => h, E.k _ (by decide +kernel), (dk.same s03), _, rfl, _, .ref (He.ga K "BadBlock"), _, rfl, fun _ h => h, E.k _ (by decide +kernel), (dk.same s03), _, rfl, _, .ref (He.ga K "Stopped"), _, rfl, fun _ h => h, E.k _ (by decide +kernel), (dk.same s03), _, rfl, _, .ref (He.ga K "Shut"), _, rfl, fun _ h => h, E.k _ (by decide +kernel), (dk.same s03), szle (by show 4 ≤ 100000; decide), fun l4 h4 => ?_⟩
  generalize gX : upd _ l4 _ = H4
  have s4 := newS h4 gX
  have e4 := newE gX
  clear gX
  refine ⟨l3, l4, [V.bl (decide (x = "BadKinds")), V.bl (decide (x = "BadOrder")), V.bl (decide (x = "BadRows")), V.bl (decide (x = "BadRuns")), V.bl (decide (x = "BadRoom")), V.bl (decide (x = "BadLengths")), V.bl (decide (x = "BadPlan")), V.bl (decide (x = "BadPaper"))], [V.bl (decide (x = "BadCount")), V.bl (decide (x = "BadBlock")), V.bl (decide (x = "Stopped")), V.bl (decide (x = "Shut"))], rfl, rfl, s4 _ _ e3, e4, szle (by show 8 + 4 ≤ 100000; decide), fun l5 h5 => ?_⟩
  generalize gX : upd _ l5 _ = H5
  have s5 := newS h5 gX
  have e5 := newE gX
  clear gX
  have s05 : Same H H5 := (s03.trans s4).trans s5
  refine ⟨_, rfl, _, rfl, _, .ref (He.ga K "NotYet"), _, rfl, fun _ h => h, E.k _ (by decide +kernel), (dk.same s05), _, rfl, _, .ref (He.ga K "Empty"), _, rfl, fun _ h => h, E.k _ (by decide +kernel), (dk.same s05), _, rfl, _, .ref (He.ga K "BadText"), _, rfl, fun _ h => h, E.k _ (by decide +kernel), (dk.same s05), szle (by show 3 ≤ 100000; decide), fun l6 h6 => ?_⟩
  generalize gX : upd _ l6 _ = H6
  have s6 := newS h6 gX
  have e6 := newE gX
  clear gX
  refine ⟨l5, l6, [V.bl (decide (x = "BadKinds")), V.bl (decide (x = "BadOrder")), V.bl (decide (x = "BadRows")), V.bl (decide (x = "BadRuns")), V.bl (decide (x = "BadRoom")), V.bl (decide (x = "BadLengths")), V.bl (decide (x = "BadPlan")), V.bl (decide (x = "BadPaper")), V.bl (decide (x = "BadCount")), V.bl (decide (x = "BadBlock")), V.bl (decide (x = "Stopped")), V.bl (decide (x = "Shut"))], [V.bl (decide (x = "NotYet")), V.bl (decide (x = "Empty")), V.bl (decide (x = "BadText"))], rfl, rfl, s6 _ _ e5, e6, szle (by show 12 + 3 ≤ 100000; decide), fun l7 h7 => ?_⟩
  generalize gX : upd _ l7 _ = H7
  have s7 := newS h7 gX
  have e7 := newE gX
  clear gX
  have s07 : Same H H7 := (s05.trans s6).trans s7
  refine ⟨szle (by show 9 ≤ 100000; decide), fun w1 g1 => ?_⟩
  generalize gX : upd _ w1 _ = G1
  have t1 := newS g1 gX
  have f1 := newE gX
  clear gX
  refine ⟨_, rfl, szle (by show 6 ≤ 100000; decide), fun w2 g2 => ?_⟩
  generalize gX : upd _ w2 _ = G2
  have t2 := newS g2 gX
  have f2 := newE gX
  clear gX
  refine ⟨w1, w2, _, _, rfl, rfl, t2 _ _ f1, f2, szle (by show 9 + 6 ≤ 100000; decide), fun w3 g3 => ?_⟩
  generalize gX : upd _ w3 _ = G3
  have t3 := newS g3 gX
  have f3 := newE gX
  clear gX
  have t0 : Same H7 G3 := (t1.trans t2).trans t3
  have eK : G3 l7 = some (.lst (truths x)) := t0 _ _ e7
  have eW : G3 w3 = some (.lst (errNames.map V.str)) := f3
  have sK : Same H G3 := s07.trans t0
  refine ⟨_, rfl, .inl ⟨rfl, _, SqL.of eK⟩, l7, truths x, .bl true, rfl, rfl, SqL.of eK, rfl, truths_flat x, rfl, _, rfl, ?_⟩
  rw [show (truths x).countP (fun z => eqV z (.bl true)) = 1 from truths_one E.mem names_nd]
  refine ⟨_, rfl, _, .type "ValueError", _, rfl, fun _ h => h, E.v, dk.same sK, ?_⟩
  obtain ⟨j, hj, ej⟩ := List.getElem_of_mem E.mem
  have hj2 : errNames[j]? = some x := by rw [List.getElem?_eq_getElem hj, ej]
  refine ⟨_, rfl, _, rfl, _, rfl, .inl ⟨rfl, _, SqL.of eK⟩, l7, truths x, .bl true, j, .bl true, rfl, rfl, SqL.of eK, rfl, truths_flat x, ?_, rfl, fun m z hm hz => ?_, ixL eW rfl (by rw [List.getElem?_map, hj2]; rfl) (k _ sK)⟩
  · unfold truths
    rw [List.getElem?_map, hj2]
    show some (V.bl (decide (x = x))) = _
    rw [decide_eq_true rfl]
  · unfold truths at hz
    rw [List.getElem?_map] at hz
    cases q : errNames[m]? with
    | none => rw [q] at hz; cases hz
    | some y =>
      rw [q] at hz
      cases hz
      rw [eqV_t]
      refine decide_eq_false fun z => ?_
      subst z
      have := (List.getElem?_inj (List.getElem?_eq_some_iff.mp q).1 names_nd).mp (q.trans hj2.symm)
      omega
abbrev N_law_told : List Str := ["_law_work", "_law_e", "_law_word"]
abbrev P_law_told : List Str := ["_law_work"]
def t_law_told (K : PySem.W.Frag) (a : Addr) (cls : Value) (d : Option Addr) : TS := (tSeq (tAsg (tWarm K 1 a cls d N_law_class (t_law_class K)) (gName 2))
  (tSeq (tIfS (tTest (tOpC rEq (tVar 2) (.str "BadRuns"))) (tRet (tTup (tCons (tVar 2) (tCons (tErrF K 1 a cls d "number") tNil)))) tNext)
   (tRet (tTup (tCons (tVar 2) (tCons (tIf (tTest (tOp (rIn K false) (tVar 2) (tTup (tConsC (.str "BadRows") (tConsC (.str "BadText") tNil))))) (tErrF K 1 a cls d "place") (tC (.int 0))) tNil))))))
theorem set1 {σ : L2.St} {v : Option V} (h : σ.length = 3) : ∃ x0 x2, σ.set 1 v = [x0, v, x2] := by
  match σ, h with
  | [x0, _, x2], _ => exact ⟨x0, x2, rfl⟩
theorem ErrNo.ok {K : PySem.W.Frag} {x : Str} {d : Option Addr} {H : Hp} {v : V} (h : ErrNo K x d H v) : DictOk d H := by
  unfold ErrNo at h
  intro dd e
  split at h
  · obtain ⟨d2, fs, _, _, e2, q, _⟩ := h
    rw [e2] at e
    cases e
    exact ⟨fs, q⟩
  · rw [h.1] at e
    cases e
theorem ErrNo.same {K : PySem.W.Frag} {x : Str} {d : Option Addr} {H H' : Hp} {v : V} (h : ErrNo K x d H v) (s : Same H H') : ErrNo K x d H' v := by
  unfold ErrNo at h ⊢
  split at h
  · rename_i c
    rw [if_pos c]
    obtain ⟨dd, fs, a, b, e, q, l⟩ := h
    exact ⟨dd, fs, a, b, e, s _ _ q, l⟩
  · rename_i c
    rw [if_neg c]
    exact h
theorem two_words {x : Str} : inV (.str x) [.str "BadRows", .str "BadText"] = decide (x = "BadRows" ∨ x = "BadText") := by
  unfold inV
  rw [List.any_cons, List.any_cons, List.any_nil, Bool.or_false]
  show (("BadRows" : Str) == x || ("BadText" : Str) == x) = _
  by_cases c : x = "BadRows"
  · subst c
    simp
  · by_cases c2 : x = "BadText"
    · subst c2
      simp
    · simp [c, c2, Ne.symm c, Ne.symm c2, beq_eq_false_iff_ne.mpr (Ne.symm c), beq_eq_false_iff_ne.mpr (Ne.symm c2)]
theorem pure_law_told {K : PySem.W.Frag} : ∀ (a : Addr) (cls : Value) (d : Option Addr) (H : Hp) (Q : VK) (D : Ends) (σ : L2.St), rErr K cls d H Q → D.rt = Q → σ.length = N_law_told.length → t_law_told K a cls d D (σ.set 1 (some (.ref a))) H := by
  intro a cls d H Q D σ h eD hl
  obtain ⟨x, v, rfl, E, no, k⟩ := h
  obtain ⟨x0, x2, eσ⟩ := set1 (v := some (.ref a)) hl
  rw [eσ]
  refine ⟨rfl, He.ga K x, rfl, E.c, does_law_class E no.ok fun H1 s1 => ?_⟩
  have no1 := no.same s1
  refine ⟨_, rfl, rfl, _, rfl, ?_⟩
  unfold ErrNo at no1
  by_cases c1 : x = "BadRuns"
  · rw [if_pos (.inl c1), if_pos c1] at no1
    obtain ⟨dd, fs, hx, hn, ed, eH, l⟩ := no1
    rw [decide_eq_true (show V.str x = V.str "BadRuns" by rw [c1])]
    refine ⟨_, rfl, rfl, _, dd, fs, v, rfl, hx, hn, ed, eH, l, szle (by show 2 ≤ 100000; decide), fun q hq => ?_⟩
    generalize gX : upd _ q _ = H2
    have s2 := newS hq gX
    have e2 := newE gX
    clear gX
    rw [eD]
    exact k q H2 (s1.free hq) (s1.trans s2) e2
  rw [decide_eq_false (show ¬ V.str x = V.str "BadRuns" from fun z => c1 (V.str.inj z))]
  refine ⟨_, rfl, _, rfl, szle (by show 2 ≤ 100000; decide), fun q hq => ?_⟩
  have q0 := s1.free hq
  generalize gX : upd _ q _ = H2
  have s2 := newS hq gX
  have e2 := newE gX
  clear gX
  refine ⟨q, _, rfl, .inr (SqT.of e2), rfl, rfl, _, rfl, ?_⟩
  rw [if_neg (by decide), two_words]
  by_cases c2 : x = "BadRows" ∨ x = "BadText"
  · rw [if_pos (.inr c2), if_neg c1] at no1
    obtain ⟨dd, fs, hx, hn, ed, eH, l⟩ := no1
    rw [decide_eq_true c2]
    refine ⟨rfl, _, dd, fs, v, rfl, hx, hn, ed, s2 _ _ eH, l, szle (by show 2 ≤ 100000; decide), fun r hr => ?_⟩
    have r0 := (s1.trans s2).free hr
    generalize gX : upd _ r _ = H3
    have s3 := newS hr gX
    have e3 := newE gX
    clear gX
    rw [eD]
    exact k r H3 r0 ((s1.trans s2).trans s3) e3
  · rw [if_neg (fun z => z.elim c1 c2)] at no1
    obtain ⟨_, rfl⟩ := no1
    rw [decide_eq_false c2]
    refine ⟨szle (by show 2 ≤ 100000; decide), fun r hr => ?_⟩
    have r0 := (s1.trans s2).free hr
    generalize gX : upd _ r _ = H3
    have s3 := newS hr gX
    have e3 := newE gX
    clear gX
    rw [eD]
    exact k r H3 r0 ((s1.trans s2).trans s3) e3
end Rs

namespace Rs
open PySem PySem.Spec PyProof.Rows L2
open LamX
def ButN (F : List Addr) (H H' : Hp) : Prop := ∀ x u, H x = some u → (∀ ps, u ≠ .tbl ps) → x ∉ F → H' x = some u
theorem ButN.of {F : List Addr} {H H' : Hp} (k : But F H H') : ButN F H H' := fun x u e _ n => k x u e n
theorem ButN.ext {F : List Addr} {H H' : Hp} (k : ExtN H H') : ButN F H H' := fun x u e n _ => k x u e n
theorem ButN.trans {F : List Addr} {H H1 H2 : Hp} (a : ButN F H H1) (b : ButN F H1 H2) : ButN F H H2 := fun x u e n m => b x u (a x u e n m) n m
def Free (F : List Addr) (H : Hp) : Prop := ∀ x ∈ F, ∀ u, H x = some u → (∀ ps, u ≠ .tbl ps) ∧ ∀ c q, u ≠ CodeO c q
theorem tabs_but {T : List (Addr × Str)} {F : List Addr} {H H' : Hp} (t : Tabs T H) (k : But F H H') (f : Free F H) : Tabs T H' := fun p hp => by
  obtain ⟨ps, h1, h2, h3⟩ := t p hp
  refine ⟨ps, k _ _ h1 fun z => (f _ z _ h1).1 ps rfl, h2, fun pos cv hc => ?_⟩
  obtain ⟨c, e1, e2⟩ := h3 pos cv hc
  exact ⟨c, e1, k _ _ e2 fun z => (f _ z _ e2).2 _ _ rfl⟩
theorem tabs_same {T : List (Addr × Str)} {H H' : Hp} (t : Tabs T H) (s : Same H H') : Tabs T H' := t.ext s
theorem free_lst {vs : List V} : (∀ ps, HO.lst vs ≠ .tbl ps) ∧ ∀ c q, HO.lst vs ≠ CodeO c q := ⟨fun _ z => (by cases z), fun _ _ z => (by unfold CodeO at z; cases z)⟩
section
variable {K : PySem.W.Frag} {H H' : Hp} {p q a bl : Addr} {F G : List Addr}
theorem Box.free (h : Box H a bl) : Free [a, bl] H := fun x hx u e => by
  obtain ⟨ns, st, e1, e2, _⟩ := h.ex
  simp only [List.mem_cons, List.not_mem_nil, or_false] at hx
  rcases hx with rfl | rfl
  · rw [e1] at e; cases e; exact free_lst
  · rw [e2] at e; cases e; exact free_lst
theorem ButN.tup (k : ButN F H H') (n : ∀ x ∈ F, ∀ vs, H x ≠ some (.tup vs)) : TupLe H H' := fun c xs e => k c _ e (fun _ z => by cases z) fun z => n c z xs e
theorem Box.keepN {Z : List Addr} (h : Box H a bl) (k : ButN Z H H') (n : ∀ x ∈ [a, bl], x ∉ Z) : Box H' a bl := h.keep (fun o e => k a o e (h.free a (by simp) o e).1 (n a (by simp))) fun o e => k bl o e (h.free bl (by simp) o e).1 (n bl (by simp))
end
theorem extN_tup {H H' : Hp} (k : ExtN H H') : TupLe H H' := fun c xs e => k c _ e fun _ z => by cases z
theorem told_by {K : PySem.W.Frag} {T : List (Addr × Str)} {H : Hp} {Q : VK} {σ : L2.St} {t : XK → TE} (hT : Tabs T H) (k : ∀ H1, ExtN H H1 → Tabs T H1 → t (fun cls d H' => rErr K cls d H' Q) σ H1 Q) : tLam T (TTold K) t σ H Q := ⟨hT, k⟩
theorem rErr_plain {K : PySem.W.Frag} {x : Str} {H : Hp} {Q : VK} (E : ErrIs K x) (hx : ¬ (x = "BadRuns" ∨ x = "BadRows" ∨ x = "BadText")) (k : ∀ u H', H u = none → Same H H' → H' u = some (.tup [.str x, .int 0]) → Q (.ref u) H') : rErr K (.ref (He.ga K x)) none H Q :=
  ⟨x, .int 0, rfl, E, by unfold ErrNo; rw [if_neg hx]; exact ⟨rfl, rfl⟩, fun u H' hu s e => k u H' hu (fun b o q => s b o q) e⟩
end Rs

namespace Rs
open PySem PySem.Spec PyProof.Rows L2
open LamX
abbrev N_law_number : List Str := ["_law_word", "_law_some", "_law_number_here"]
abbrev P_law_number : List Str := ["_law_word"]
open _root_.TL
def sp_law_number (K : PySem.W.Frag) : Sp := fun vs H Q E => match vs with
  | [wv] => ∃ w : Str, wv = .str w ∧ w.length ≤ 1000 ∧ ∀ v H', NumAt H' v (numOf w) → Same H H' → Q v H'
  | _ => False
def t_law_number (K : PySem.W.Frag) (E : XK) : TS := (tSeq (tAsg (tLc (iRng1 (tConsC (.int 100) tNil)) (gName 2) (tTest (tOp rEq (tCB1 xStr (tVar 2)) (tVar 0))) (tVar 2) [2]) (gName 1))
  (tRet (tIf (tTest (tOp (xNeE K) (tVar 1) (tLst tNil))) (tOpC (rIxL K) (tVar 1) (.int 0)) (tC .non))))
theorem num_two : ∀ c ∈ figures, (numGood ⟨#[c]⟩ = true → ((List.range 100).any fun m => decide (numS m = ⟨#[c]⟩) && decide (numOf ⟨#[c]⟩ = some (m : Int))) = true) ∧ ∀ d ∈ figures, numGood ⟨#[c, d]⟩ = true → ((List.range 100).any fun m => decide (numS m = ⟨#[c, d]⟩) && decide (numOf ⟨#[c, d]⟩ = some (m : Int))) = true := by decide +kernel
theorem num_made {w : Str} {n : Int} (h : numOf w = some n) : ∃ m : Nat, m < 100 ∧ numS m = w ∧ n = (m : Int) := by
  have g : numGood w = true := by
    unfold numOf at h
    by_cases c : numGood w = true
    · exact c
    · rw [if_neg c] at h; cases h
  have g2 := g
  unfold numGood at g2
  simp only [Bool.and_eq_true, decide_eq_true_eq] at g2
  obtain ⟨⟨⟨l1, l2⟩, al⟩, _⟩ := g2
  rw [List.all_eq_true] at al
  have wl := str_len w
  have key : ∀ x : Str, x = w → ((List.range 100).any fun m => decide (numS m = x) && decide (numOf x = some (m : Int))) = true → ∃ m : Nat, m < 100 ∧ numS m = w ∧ n = (m : Int) := fun x e a => by
    subst e
    obtain ⟨m, hm, e⟩ := List.any_eq_true.mp a
    simp only [Bool.and_eq_true, decide_eq_true_eq] at e
    rw [h] at e
    exact ⟨m, List.mem_range.mp hm, e.1, Option.some.inj e.2⟩
  match hw : tl w with
  | [] => rw [hw] at wl; simp at wl; omega
  | [c] =>
    have e : (⟨#[c]⟩ : Str) = w := by
      have := mk_tl w
      rw [hw] at this
      exact this
    have hc : c ∈ figures := of_decide_eq_true (al c (by rw [hw]; simp))
    exact key _ e ((num_two c hc).1 (by rw [e]; exact g))
  | [c, d] =>
    have e : (⟨#[c, d]⟩ : Str) = w := by
      have := mk_tl w
      rw [hw] at this
      exact this
    have hc : c ∈ figures := of_decide_eq_true (al c (by rw [hw]; simp))
    have hd : d ∈ figures := of_decide_eq_true (al d (by rw [hw]; simp))
    exact key _ e ((num_two c hc).2 d hd (by rw [e]; exact g))
  | _ :: _ :: _ :: r => rw [hw] at wl; simp at wl; omega
theorem pure_law_number {K : PySem.W.Frag} : ∀ vs H Q E, sp_law_number K vs H Q E → t_law_number K E { nx := fun _ H' => Q .non H', rt := Q } (start N_law_number vs) H := by
  intro vs H Q E hyp
  match vs, hyp with
  | [wv], hyp =>
    obtain ⟨w, rfl, hl, k⟩ := hyp
    refine ⟨_, rfl, by decide, by decide, fun D hD => ?_⟩
    have e100 : (100 : Int).toNat = 100 := rfl
    rw [e100]
    refine lc_range (lo := 0) (n := 100) (fun i H' => H' D = some (.lst (((List.range i).filter fun (n : Nat) => decide (numS n = w)).map fun (n : Nat) => V.int (n : Int))) ∧ Same H H') ⟨upd_same, Rs.Same.new hD⟩ ?_ ?_
    · rintro i H1 hi ⟨ed, s1⟩
      have few := List.length_filter_le (fun (n : Nat) => decide (numS n = w)) (List.range i)
      rw [List.length_range] at few
      have lg : ∀ n : Nat, n < 100 → ((0 : Int) + (n : Int)).natAbs.log2 < 1920 := by decide +kernel
      refine ⟨rfl, _, rfl, _, rfl, lg i hi, _, rfl, rfl, _, rfl, ?_⟩
      have en : (V.str (toString ((0 : Int) + (i : Int))) : V) = V.str (numS i) := by rw [Int.zero_add]; rfl
      have ed2 : decide (V.str (toString ((0 : Int) + (i : Int))) = V.str w) = decide (numS i = w) := by rw [en, dec_str]
      rw [ed2]
      by_cases c : numS i = w
      · rw [decide_eq_true c]
        refine ⟨_, rfl, _, ed, szlt (by rw [List.length_map]; omega), ?_, Rs.Same.mut s1 hD⟩
        rw [upd_same, List.range_succ, List.filter_append, List.map_append, Int.zero_add]
        simp [c]
      · rw [decide_eq_false c]
        refine ⟨?_, s1⟩
        rw [ed, List.range_succ, List.filter_append]
        simp [c]
    · rintro H1 ⟨ed, s1⟩
      refine ⟨_, rfl, sz0, fun p hp => ?_⟩
      have s2 := s1.trans (Rs.Same.new (o := .lst []) hp)
      refine neE ed hp (b := !((List.range 100).filter fun (n : Nat) => decide (numS n = w)).isEmpty) (by rw [List.isEmpty_map]) ⟨_, rfl, ?_⟩
      cases hf : (List.range 100).filter fun (n : Nat) => decide (numS n = w) with
      | nil =>
        refine k .non _ ?_ s2
        cases hn : numOf w with
        | none => rfl
        | some n =>
          exfalso
          obtain ⟨m, hm, e, _⟩ := num_made hn
          have : m ∈ (List.range 100).filter fun (n : Nat) => decide (numS n = w) := List.mem_filter.mpr ⟨List.mem_range.mpr hm, decide_eq_true e⟩
          rw [hf] at this
          simp at this
      | cons m r =>
        have hm : m ∈ (List.range 100).filter fun (n : Nat) => decide (numS n = w) := by rw [hf]; simp
        obtain ⟨h1, h2⟩ := List.mem_filter.mp hm
        have e := of_decide_eq_true h2
        rw [hf] at ed
        refine ⟨_, rfl, ixL (up ed (ne_of_none ed hp)) (j := 0) (by decide) rfl (k (.int (m : Int)) _ ?_ s2)⟩
        rw [← e, num_of_num (List.mem_range.mp h1)]
        rfl
open _root_.TL
theorem spl_ne (S : List Nat) : ∀ (xs : List Nat) (k : Nat) (acc : List Nat), spl S k acc xs ≠ []
  | [], k, acc => by rw [spl_nil]; simp
  | c :: r, 0, acc => by
    cases h : pre S (c :: r) with
    | true => rw [spl_hit h]; simp
    | false => rw [spl_miss h]; exact spl_ne S r 0 _
  | c :: r, k + 1, acc => spl_ne S r k acc
theorem spl_len (S : List Nat) : ∀ (xs : List Nat) (k : Nat) (acc : List Nat), ((spl S k acc xs).map fun w => w.length + 1).sum ≤ acc.length + xs.length + 1
  | [], k, acc => by rw [spl_nil]; simp
  | c :: r, 0, acc => by
    cases h : pre S (c :: r) with
    | true =>
      rw [spl_hit h, List.map_cons, List.sum_cons]
      have := spl_len S r (S.length - 1) []
      simp only [List.length_nil, List.length_cons] at this ⊢
      omega
    | false =>
      rw [spl_miss h]
      have := spl_len S r 0 (acc ++ [c])
      simp only [List.length_append, List.length_cons, List.length_nil] at this ⊢
      omega
  | c :: r, k + 1, acc => by
    have := spl_len S r k acc
    show ((spl S k acc r).map fun w => w.length + 1).sum ≤ _
    simp only [List.length_cons]
    omega
theorem spl_cnt (S : List Nat) (a : Nat) : ∀ (xs : List Nat) (k : Nat) (acc : List Nat), ((spl S k acc xs).map (List.count a)).sum ≤ acc.count a + xs.count a
  | [], k, acc => by rw [spl_nil]; simp
  | c :: r, 0, acc => by
    cases h : pre S (c :: r) with
    | true =>
      rw [spl_hit h, List.map_cons, List.sum_cons]
      have := spl_cnt S a r (S.length - 1) []
      have c1 : r.count a ≤ (c :: r).count a := (List.sublist_cons_self c r).count_le a
      simp only [List.count_nil] at this
      omega
    | false =>
      rw [spl_miss h]
      have := spl_cnt S a r 0 (acc ++ [c])
      rw [List.count_append] at this
      have c1 : (c :: r).count a = [c].count a + r.count a := by rw [← List.count_append]; rfl
      omega
  | c :: r, k + 1, acc => by
    have := spl_cnt S a r k acc
    show ((spl S k acc r).map (List.count a)).sum ≤ _
    have c1 : r.count a ≤ (c :: r).count a := (List.sublist_cons_self c r).count_le a
    omega
def opens (x : Str) : Nat := (tl x).count 40
theorem opens_app (a b : Str) : opens (a ++ b) = opens a + opens b := by
  unfold opens
  rw [tl_append, List.count_append]
structure SepOk (y : Str) : Prop where
  ne : tl y ≠ []
  k : y.cps.all (· < 256) = true
theorem sep_blank : SepOk (" " : Str) := ⟨by decide +kernel, by decide +kernel⟩
theorem sep_comma : SepOk (", " : Str) := ⟨by decide +kernel, by decide +kernel⟩
theorem split_ne {x y : Str} (h : SepOk y) : Txt.split x y ≠ [] := fun z => by
  have e := split_spl x y h.ne (kind_ok h.k)
  rw [z] at e
  exact spl_ne _ _ _ _ e.symm
theorem split_len {x y : Str} (h : SepOk y) : ((Txt.split x y).map fun w => w.length + 1).sum ≤ x.length + 1 := by
  have e := split_spl x y h.ne (kind_ok h.k)
  have := spl_len (tl y) (tl x) 0 []
  rw [← e, List.map_map] at this
  have e2 : (fun w : List Nat => w.length + 1) ∘ tl = fun w : Str => w.length + 1 := by
    funext w
    show (tl w).length + 1 = w.length + 1
    rw [str_len]
  rw [e2, ← str_len] at this
  simpa using this
theorem split_cnt {x y : Str} (h : SepOk y) : ((Txt.split x y).map opens).sum ≤ opens x := by
  have e := split_spl x y h.ne (kind_ok h.k)
  have := spl_cnt (tl y) 40 (tl x) 0 []
  rw [← e, List.map_map] at this
  have e2 : List.count 40 ∘ tl = opens := rfl
  rw [e2, List.count_nil, Nat.zero_add] at this
  exact this
theorem sum_mem {α : Type} {f : α → Nat} : ∀ {l : List α} {x : α}, x ∈ l → f x ≤ (l.map f).sum
  | y :: l, x, h => by
    rw [List.map_cons, List.sum_cons]
    rcases List.mem_cons.mp h with e | h
    · rw [e]; omega
    · have := sum_mem (f := f) h
      omega
theorem sum_count {α : Type} {f : α → Nat} : ∀ (l : List α), l.length ≤ (l.map fun x => f x + 1).sum
  | [] => by simp
  | y :: l => by
    rw [List.map_cons, List.sum_cons, List.length_cons]
    have := sum_count (f := f) l
    omega
theorem split_few {x y : Str} (h : SepOk y) : (Txt.split x y).length ≤ x.length + 1 := Nat.le_trans (sum_count (f := fun w : Str => w.length) _) (split_len h)
theorem split_part {x y w : Str} (h : SepOk y) (m : w ∈ Txt.split x y) : w.length ≤ x.length := by
  have a : w.length + 1 ≤ ((Txt.split x y).map fun w : Str => w.length + 1).sum := sum_mem (f := fun w : Str => w.length + 1) m
  have b := split_len (x := x) h
  omega
def partOf (p : Str) : Option (Nat × Bool) := match Txt.split p (" " : Str) with
  | [a, b] => (match numOf a with
    | some n => if b = ("up" : Str) then some (n.toNat, true) else if b = ("down" : Str) then some (n.toNat, false) else none
    | none => none)
  | _ => none
def ordL : Nat → List Str → Nat ⊕ Ord
  | _, [] => .inr []
  | k, p :: r => match partOf p with
    | none => .inl k
    | some t => (match ordL (k + 1) r with
      | .inl n => .inl n
      | .inr o => .inr (t :: o))
def goE (o : Ord) : Nat ⊕ Ord → Nat ⊕ Ord
  | .inl n => .inl n
  | .inr o' => .inr (o ++ o')
theorem goE_step {o : Ord} {k : Nat} {p : Str} {r : List Str} {t : Nat × Bool} (h : partOf p = some t) : goE o (ordL k (p :: r)) = goE (o ++ [t]) (ordL (k + 1) r) := by
  rw [ordL, h]
  dsimp only
  cases ordL (k + 1) r with
  | inl n => rfl
  | inr o' => show Sum.inr (o ++ t :: o') = Sum.inr (o ++ [t] ++ o'); rw [List.append_assoc]; rfl
theorem goE_bad {o : Ord} {k : Nat} {p : Str} {r : List Str} (h : partOf p = none) : goE o (ordL k (p :: r)) = .inl k := by
  rw [ordL, h]
  rfl
theorem numOf_nat {w : Str} {n : Int} (h : numOf w = some n) : 0 ≤ n ∧ n < 100 := by
  obtain ⟨m, hm, _, e⟩ := num_made h
  omega
end Rs

namespace Rs
open PySem PySem.Spec PyProof.Rows L2
open LamX
abbrev N_is_turnX : List Str := ["kinds", "turn"]
abbrev P_is_turnX : List Str := ["kinds", "turn"]
def sp_is_turnX (K : PySem.W.Frag) : Sp := fun vs H Q E => match vs with
  | [kv, tv] => ∃ (ks : List Str) (t : Nat × Bool), KindsAt H kv ks ∧ TurnAt H tv t ∧ ∀ H', Same H H' → Q (.bl (decide (t.1 < ks.length))) H'
  | _ => False
def t_is_turnX (K : PySem.W.Frag) (E : XK) : TS := (tRet (tAndV (tOpC rEq (tCB1 (xLen K) (tVar 1)) (.int 2)) (tAndV (tChain xLe xLt (tC (.int 0)) (tOpC (rIxT K) (tVar 1) (.int 0)) (tCB1 (xLen K) (tVar 0))) (tOp (rIn K false) (tOpC (rIxT K) (tVar 1) (.int 1)) (tTup (tConsC (.str "up") (tConsC (.str "down") tNil)))))))
theorem pure_is_turnX {K : PySem.W.Frag} : ∀ vs H Q E, sp_is_turnX K vs H Q E → t_is_turnX K E { nx := fun _ H' => Q .non H', rt := Q } (start N_is_turnX vs) H := by
  intro vs H Q E h
  match vs, h with
  | [kv, tv], h =>
    obtain ⟨ks, t, ⟨kt, rfl, hkt⟩, ⟨ta, rfl, hta⟩, k⟩ := h
    refine ⟨_, rfl, _, _, rfl, .inr (SqT.of hta), rfl, _, rfl, ?_⟩
    have e1 : decide (V.int ((([V.int (t.1 : Int), V.str (wayS t.2)] : List V).length : Nat) : Int) = V.int 2) = true := decide_eq_true rfl
    rw [e1]
    refine ⟨_, rfl, ixT ⟨ta, rfl, hta⟩ (j := 0) rfl rfl ⟨_, _, rfl, rfl, _, rfl, ?_⟩⟩
    rw [decide_eq_true (show (0 : Int) ≤ (t.1 : Int) by omega)]
    refine ⟨_, rfl, _, _, rfl, .inr (SqT.of hkt), _, _, rfl, rfl, _, rfl, ?_⟩
    rw [List.length_map]
    by_cases c : (t.1 : Int) < (ks.length : Int)
    · rw [decide_eq_true c]
      rw [decide_eq_true (show t.1 < ks.length by omega)] at k
      refine ⟨_, rfl, ixT ⟨ta, rfl, hta⟩ (j := 1) rfl rfl ⟨szle (by show 2 ≤ 100000; decide), fun p hp => ⟨p, _, rfl, .inr (SqT.of upd_same), rfl, rfl, ?_⟩⟩⟩
      have e : inV (.str (wayS t.2)) [.str "up", .str "down"] = true := by
        rw [in_two]
        cases t.2
        · rw [decide_eq_true (p := ("down" : Str) = wayS false) rfl, Bool.or_true]
        · rw [decide_eq_true (p := ("up" : Str) = wayS true) rfl]; rfl
      show Q (.bl (inV (.str (wayS t.2)) [.str "up", .str "down"])) _
      rw [e]
      exact k _ (Rs.Same.new hp)
    · rw [decide_eq_false c]
      rw [decide_eq_false (show ¬ t.1 < ks.length by omega)] at k
      exact k H (Same.refl H)
abbrev N_need_orderX : List Str := ["kinds", "order", "good", "turn"]
abbrev P_need_orderX : List Str := ["kinds", "order"]
def sp_need_orderX (K : PySem.W.Frag) : Sp := fun vs H Q E => match vs with
  | [kv, ov] => ∃ ks o, KindsAt H kv ks ∧ LstV TurnAt H ov o ∧ o.length ≤ 2000 ∧ (GoodOrd ks o → ∀ H', Same H H' → Q .non H') ∧ (¬ GoodOrd ks o → ∀ H', Same H H' → E (.ref (He.ga K "BadOrder")) none H')
  | _ => False
def t_need_orderX (K : PySem.W.Frag) (E : XK) : TS := (tSeq (tAsg (tLc (iList K (tVar 1)) (gName 3) (tB (tCall (sp_is_turnX K) [] E0 (tCons (tVar 0) (tCons (tVar 3) tNil)))) (tVar 3) [3]) (gName 2))
  (tIfS (tOr (tTest (tOpC rEq (tCB1 (xLen K) (tVar 2)) (.int 0))) (tOr (tTest (tOp rNe (tCB1 (xLen K) (tVar 2)) (tCB1 (xLen K) (tVar 1)))) (tTest (tOp rNe (tLenSetX K (tLc (iList K (tVar 2)) (gName 3) tYes (tOpC (rIxT K) (tVar 3) (.int 0)) [3])) (tCB1 (xLen K) (tVar 2)))))) (tRaise E (.ref (He.ga K "BadOrder"))) tNext))
theorem firstMet_all {val : Nat → Int} : ∀ (i : Nat), (PyProof.Rows.firstMet val i).length = i → ((List.range i).map val).Nodup
  | 0, _ => by simp
  | i + 1, h => by
    rw [PyProof.Rows.firstMet_succ] at h
    unfold PyProof.Rows.step_dedup at h
    have le := PyProof.Rows.firstMet_length_le val i
    split at h
    · omega
    · rename_i hn
      rw [List.length_append, List.length_singleton] at h
      have ih := firstMet_all (val := val) i (by omega)
      rw [List.range_succ, List.map_append, List.nodup_append]
      refine ⟨ih, by simp, fun a ha b hb e => ?_⟩
      have hb : b = val i := by simpa using hb
      rw [PyProof.Rows.firstMet_any] at hn
      refine hn (List.any_eq_true.mpr ⟨a, ha, ?_⟩)
      rw [e, hb]
      simp
theorem dcount_eq {ns : List Int} (h : dcount ns = ns.length) : ns.Nodup := by
  have := firstMet_all (val := fun i => ns.getD i 0) ns.length h
  have e : ((List.range ns.length).map fun i => ns.getD i 0) = ns := by
    refine List.ext_getElem? fun i => ?_
    rw [List.getElem?_map]
    by_cases c : i < ns.length
    · rw [List.getElem?_range c, List.getElem?_eq_getElem c]
      show some (ns.getD i 0) = _
      rw [getD_lt c]
    · rw [List.getElem?_eq_none (by rw [List.length_range]; omega), List.getElem?_eq_none (by omega)]
      rfl
  rwa [e] at this
theorem pure_need_orderX {K : PySem.W.Frag} : ∀ vs H Q E, sp_need_orderX K vs H Q E → t_need_orderX K E { nx := fun _ H' => Q .non H', rt := Q } (start N_need_orderX vs) H := by
  intro vs H Q E h
  match vs, h with
  | [kv, ov], h =>
    obtain ⟨ks, o, hk, ⟨lo, rfl, ov, hlo, hts⟩, hlen, kg, kb⟩ := h
    have hl := hts.length
    let f : Nat × Bool → Bool := fun t => decide (t.1 < ks.length)
    refine ⟨_, rfl, lo, rfl, ⟨_, SqL.of hlo⟩, fun D hD => ?_⟩
    refine lcm_list (S := TurnAt) (fun t : Nat × Bool => if decide (t.1 < ks.length) = true then some t else none) TurnAt.st hlo hts hD ?_ (by omega) ?_
    · intro j v t H' hx hj r s skip put
      refine ⟨rfl, _, rfl, _, rfl, ks, t, hk.mono (TupLe.same s), TurnAt.st _ _ _ _ (TupLe.same s) r, fun H2 s2 => ⟨_, rfl, ?_⟩⟩
      cases c : decide (t.1 < ks.length) with
      | false => exact skip H2 s2 (by rw [c]; rfl)
      | true => exact ⟨_, rfl, put H2 _ _ s2 (by rw [c]; rfl) (TurnAt.st _ _ _ _ (TupLe.same (s.trans s2)) r)⟩
    intro H2 L s
    rw [fm_if (f := fun p => p), List.map_id'] at L
    obtain ⟨dv, hd, pd⟩ := L
    have ld := pd.length
    have lf := List.length_filter_le (fun t : Nat × Bool => decide (t.1 < ks.length)) o
    refine ⟨_, rfl, _, _, rfl, .inl (SqL.of hd), rfl, _, rfl, ?_⟩
    by_cases c0 : dv.length = 0
    · have e0 : decide (V.int (dv.length : Int) = V.int 0) = true := decide_eq_true (by rw [c0]; rfl)
      rw [e0]
      refine kb (fun g => ?_) H2 s
      have : (o.filter fun t : Nat × Bool => decide (t.1 < ks.length)) = [] := List.eq_nil_of_length_eq_zero (by omega)
      obtain ⟨t, r, eo⟩ : ∃ t r, o = t :: r := by
        cases o with
        | nil => exact absurd rfl g.ne
        | cons t r => exact ⟨t, r, rfl⟩
      have m : t ∈ o.filter fun t : Nat × Bool => decide (t.1 < ks.length) := List.mem_filter.mpr ⟨by rw [eo]; simp, decide_eq_true (g.col t (by rw [eo]; simp))⟩
      rw [this] at m
      simp at m
    have e0 : decide (V.int (dv.length : Int) = V.int 0) = false := decide_eq_false fun e => by injection e with e; omega
    rw [e0]
    refine ⟨_, rfl, _, _, rfl, .inl (SqL.of hd), _, rfl, _, _, rfl, .inl (SqL.of (s _ _ hlo)), rfl, _, rfl, ?_⟩
    by_cases c1 : dv.length = ov.length
    rotate_left
    · have e1 : (!decide (V.int (dv.length : Int) = V.int (ov.length : Int))) = true := by
        rw [decide_eq_false fun e => c1 (by injection e with e; omega)]
        rfl
      rw [e1]
      refine kb (fun g => c1 ?_) H2 s
      rw [ld, hl, List.filter_eq_self.mpr fun t ht => decide_eq_true (g.col t ht)]
    have e1 : (!decide (V.int (dv.length : Int) = V.int (ov.length : Int))) = false := by rw [c1]; simp
    rw [e1]
    have all : o.filter (fun t : Nat × Bool => decide (t.1 < ks.length)) = o := by
      refine List.filter_eq_self.mpr ?_
      exact List.length_filter_eq_length_iff.mp (by omega)
    rw [all] at pd
    have col : ∀ t ∈ o, t.1 < ks.length := fun t ht => by
      have := List.filter_eq_self.mp all t ht
      exact of_decide_eq_true this
    refine ⟨_, rfl, D, rfl, ⟨_, SqL.of hd⟩, fun D2 hD2 => ?_⟩
    refine lcm_list (S := IntAt) (fun t : Nat × Bool => some (t.1 : Int)) IntAt.st hd pd hD2 ?_ (by omega) ?_
    · intro j v t H' hx hj r s2 skip put
      exact ⟨rfl, lc_yes ⟨_, rfl, ixT (TurnAt.st _ _ _ _ (TupLe.same s2) r) (j := 0) rfl rfl (put _ _ _ (Same.refl _) rfl rfl)⟩⟩
    intro H3 L3 s3
    rw [fm_some] at L3
    have hd2 := Lst.ints.mp L3
    refine ⟨D2, _, rfl, SqL.of hd2, by rw [List.length_map]; omega, _, rfl, _, _, rfl, .inl (SqL.of (s3 _ _ hd)), rfl, _, rfl, ?_⟩
    have s03 := s.trans s3
    have cast : (o.map fun t => (t.1 : Int)) = (o.map (·.1)).map fun (n : Nat) => (n : Int) := by rw [List.map_map]; rfl
    have uncast : (o.map fun t => (t.1 : Int)).Nodup → (o.map (·.1)).Nodup := fun h => by
      rw [cast] at h
      unfold List.Nodup at h ⊢
      rw [List.pairwise_map] at h
      exact List.Pairwise.imp (fun {a b} q e => q (by rw [e])) h
    by_cases c2 : dcount (o.map fun t => (t.1 : Int)) = ov.length
    · have e2 : (!decide (V.int ((dcount (o.map fun t => (t.1 : Int)) : Nat) : Int) = V.int (dv.length : Int))) = false := by rw [c2, c1]; simp
      rw [e2]
      refine kg ⟨fun z => c0 (by rw [c1, hl, z]; rfl), col, uncast (dcount_eq (by rw [c2, List.length_map, hl]))⟩ H3 s03
    · have e2 : (!decide (V.int ((dcount (o.map fun t => (t.1 : Int)) : Nat) : Int) = V.int (dv.length : Int))) = true := by
        rw [decide_eq_false fun e => c2 (by injection e with e; omega)]
        rfl
      rw [e2]
      refine kb (fun g => c2 ?_) H3 s03
      have nd := nodup_cast g.nd
      rw [← cast] at nd
      rw [dcount_nodup nd, List.length_map, hl]
theorem imp_need_order {K : PySem.W.Frag} : ∀ vs H Q E, sp_need_order K vs H Q E → sp_need_orderX K vs H Q E := fun vs H Q E h => by
  match vs, h with
  | [kv, ov], ⟨ks, o, a, b, c, d, k⟩ => exact ⟨ks, o, a, b, by omega, fun _ H' s => k H' s, fun z => (z c).elim⟩
end Rs

namespace Rs
open PySem PySem.Spec PyProof.Rows L2
open LamX
abbrev N_read_orderX : List Str := ["kinds", "text", "found", "place", "part", "words", "number"]
abbrev P_read_orderX : List Str := ["kinds", "text"]
open _root_.TL
def sp_read_orderX (K : PySem.W.Frag) : Sp := fun vs H Q E => match vs with
  | [kv, tv] => ∃ ks x, KindsAt H kv ks ∧ GoodKinds ks ∧ tv = .str x ∧ x.length ≤ 1000 ∧
    (∀ n, ordL 0 (Txt.split x (", " : Str)) = .inl n → ∀ d H1, H1 d = none → Same H H1 → E (.ref (He.ga K "BadText")) (some d) (upd H1 d (.xd [(("place" : Str), .int (n : Int))]))) ∧
    ∀ o, ordL 0 (Txt.split x (", " : Str)) = .inr o → (GoodOrd ks o → ∀ l H', H l = none → Lst TurnAt H' l o → Same H H' → Q (.ref l) H') ∧ (¬ GoodOrd ks o → ∀ H', Same H H' → E (.ref (He.ga K "BadOrder")) none H')
  | _ => False
def t_read_orderX (K : PySem.W.Frag) (E : XK) : TS := (tSeq (tDrop (tCall (sp_need_kinds K) [] E (tCons (tVar 0) tNil)))
  (tSeq (tAsg (tLst tNil) (gName 2))
   (tSeq (tFor (iEnum K (tCons (tM1 xSplit (tVar 1) (tC (.str ", "))) tNil)) (gTup K 2 (gCons (gName 3) (gCons (gName 4) gNil))) 
      (tSeq (tAsg (tM1 xSplit (tVar 4) (tC (.str " "))) (gName 5))
      (tSeq (tAsg (tCall (sp_number_of K) [] E (tCons (tOpC (rIxL K) (tVar 5) (.int 0)) tNil)) (gName 6))
       (tSeq (tIfS (tOr (tTest (tOpC rNe (tCB1 (xLen K) (tVar 5)) (.int 2))) (tOr (tTest (tOpC rIsN (tVar 6) .non)) (tTest (tOp (rIn K true) (tOpC (rIxL K) (tVar 5) (.int 1)) (tTup (tConsC (.str "up") (tConsC (.str "down") tNil))))))) (tRaiseX K "BadText" "place" E (tCons (tVar 3) tNil)) tNext)
        (tDrop (tBM K "list" rAppend (tVar 2) (tCons (tTup (tCons (tVar 6) (tCons (tOpC (rIxL K) (tVar 5) (.int 1)) tNil))) tNil)))))))
    (tSeq (tDrop (tCall (sp_need_orderX K) [] E (tCons (tVar 0) (tCons (tVar 2) tNil))))
     (tRet (tVar 2))))))
theorem pure_read_orderX {K : PySem.W.Frag} : ∀ vs H Q E, sp_read_orderX K vs H Q E → t_read_orderX K E { nx := fun _ H' => Q .non H', rt := Q } (start N_read_orderX vs) H := by
  intro vs H Q E hyp
  match vs, hyp with
  | [kv, tv], hyp =>
    obtain ⟨ks, x, hk, gk, rfl, xl, kb, kg⟩ := hyp
    have pfew := split_few (x := x) sep_comma
    have ppart := fun w m => split_part (x := x) (w := w) sep_comma m
    generalize hps : Txt.split x (", " : Str) = ps at pfew ppart kb kg
    refine ⟨_, rfl, ks, hk, gk, fun H1 s1 => ?_⟩
    refine ⟨sz0, fun f hf => ?_⟩
    have hf0 : H f = none := s1.free hf
    generalize gX : upd _ f _ = H2
    have s2 := newS hf gX
    have ef := newE gX
    clear gX
    have s02 := s1.trans s2
    refine ⟨_, rfl, ⟨_, rfl⟩, x, ", ", rfl, rfl, by decide +kernel, szle (by omega), fun lp hlp => ?_⟩
    rw [hps]
    have nflp : lp ≠ f := (ne_of_none ef hlp).symm
    generalize gX : upd _ lp _ = H3
    have s3 := newS hlp gX
    have elp := newE gX
    clear gX
    have s03 := s02.trans s3
    refine ⟨lp, _, rfl, SqL.of elp, ?_⟩
    refine for_it (walk_enum (K := K) (a := lp) (xs := ps.map V.str)) (fun i σ H' => ∃ x3 x4 x5 x6 o, σ = [some kv, some (.str x), some (.ref f), x3, x4, x5, x6] ∧ Lst TurnAt H' f o ∧ o.length = i ∧ ordL 0 ps = goE o (ordL i (ps.drop i)) ∧ Same H H' ∧ H' lp = some (.lst (ps.map V.str)))
      ⟨none, none, none, none, [], rfl, ⟨[], s3 _ _ ef, .nil⟩, rfl, by rw [List.drop_zero]; cases ordL 0 ps <;> rfl, s03, elp⟩ ?_ ?_ ?_
    · rintro i σ H' _ ⟨_, _, _, _, _, _, _, _, _, _, e⟩
      exact SqL.of e
    · rintro i v σ H4 H5 hi ⟨x3, x4, x5, x6, o, rfl, ⟨fv, ef4, pf⟩, ol, ord, s4, elp4⟩ ⟨T, x1, w, rfl, hT, rfl, hx1, hw⟩
      cases hx1
      have hw : (ps.map V.str)[i]? = some w := hw
      rw [List.getElem?_map] at hw
      obtain ⟨p, hp, rfl⟩ := Option.map_eq_some_iff.mp hw
      have hil := (List.getElem?_eq_some_iff.mp hp).1
      have lf := pf.length
      have dr : ps.drop i = p :: ps.drop (i + 1) := drop_cons hp
      rw [dr] at ord
      have pl := ppart p (List.mem_of_getElem? hp)
      have bad : ∀ (H' : Hp), Same H H' → partOf p = none → ∀ d, H' d = none → E (.ref (He.ga K "BadText")) (some d) (upd H' d (.xd [(("place" : Str), .int ((i : Nat) : Int))])) := fun H' s e d hd => by
        rw [goE_bad e] at ord
        exact kb i ord d H' hd s
      have s5 : Same H4 (upd H4 T (.tup [.int (i : Nat), .str p])) := Rs.Same.new hT
      refine ⟨T, _, rfl, SqT.of upd_same, rfl, _, _, rfl, _, _, rfl, rfl, ?_⟩
      refine ⟨_, rfl, ⟨_, rfl⟩, p, " ", rfl, rfl, by decide +kernel, szle (by omega), fun lw hlw => ?_⟩
      have wne := split_ne (x := p) sep_blank
      have wpart := fun w m => split_part (x := p) (w := w) sep_blank m
      have wfew := split_few (x := p) sep_blank
      have part : partOf p = match Txt.split p (" " : Str) with
        | [a, b] => (match numOf a with
          | some n => if b = ("up" : Str) then some (n.toNat, true) else if b = ("down" : Str) then some (n.toNat, false) else none
          | none => none)
        | _ => none := rfl
      generalize Txt.split p (" " : Str) = ws at wne wpart part wfew
      generalize gX : upd H4 T (.tup [.int (i : Nat), .str p]) = H5' at s5 hlw ⊢
      clear gX
      generalize gX : upd _ lw _ = H6
      have s6 := newS hlw gX
      have elw := newE gX
      clear gX
      have s46 := s5.trans s6
      obtain ⟨a, r, rfl⟩ : ∃ a r, ws = a :: r := by
        cases ws with
        | nil => exact absurd rfl wne
        | cons a r => exact ⟨a, r, rfl⟩
      refine ⟨_, rfl, ixL elw (j := 0) rfl rfl ⟨a, rfl, by have := wpart a (by simp); omega, fun v H7 hv s7 => ?_⟩⟩
      have elw7 := s7 _ _ elw
      have s47 := s46.trans s7
      have s07 := s4.trans s47
      refine ⟨_, rfl, lenL elw7 rfl ⟨rfl, _, rfl, ?_⟩⟩
      have el : ((a :: r).map V.str).length = r.length + 1 := by simp
      rw [el]
      by_cases c2 : r.length = 1
      rotate_left
      · have e2 : (!decide (V.int ((r.length + 1 : Nat) : Int) = V.int 2)) = true := by
          rw [decide_eq_false fun e => c2 (by injection e with e; omega)]
          rfl
        rw [e2]
        refine ⟨_, rfl, _, rfl, fun d hd => bad H7 s07 ?_ d hd⟩
        rw [part]
        match r, c2 with
        | [], _ => rfl
        | [b], c2 => exact absurd rfl c2
        | b :: c :: r, _ => rfl
      obtain ⟨b, rfl⟩ := List.length_eq_one_iff.mp c2
      have e2 : (!decide (V.int (([b].length + 1 : Nat) : Int) = V.int 2)) = false := rfl
      rw [e2]
      refine ⟨_, rfl, rfl, _, rfl, ?_⟩
      dsimp only at part
      cases hn : numOf a with
      | none =>
        rw [hn] at hv
        have hv : v = .non := hv
        subst hv
        rw [decide_eq_true (rfl : V.non = V.non)]
        exact ⟨_, rfl, _, rfl, fun d hd => bad H7 s07 (by rw [part, hn]) d hd⟩
      | some n =>
        rw [hn] at hv
        have hv : v = .int n := hv
        subst hv
        rw [decide_eq_false (show ¬ V.int n = V.non from fun z => by cases z)]
        refine ⟨_, rfl, ixL elw7 (j := 1) rfl rfl ⟨szle (by show 2 ≤ 100000; decide), fun tw htw => ⟨tw, _, rfl, .inr (SqT.of upd_same), rfl, rfl, _, rfl, ?_⟩⟩⟩
        have s8 := Rs.Same.new (o := .tup [.str "up", .str "down"]) htw
        have s08 := s07.trans s8
        rw [if_pos rfl, in_two]
        have n0 := (numOf_nat hn).1
        have good : ∀ w : Bool, wayS w = b → partOf p = some (n.toNat, w) → _ := fun w ew pe => by
          subst ew
          rw [goE_step pe] at ord
          have s48 := s47.trans s8
          have ef8 := s48 _ _ ef4
          show (tDrop (tBM K "list" rAppend (tVar 2) (tCons (tTup (tCons (tVar 6) (tCons (tOpC (rIxL K) (tVar 5) (.int 1)) tNil))) tNil))) { nx := fun σ H' => ∃ x3 x4 x5 x6 o, σ = [some kv, some (.str x), some (.ref f), x3, x4, x5, x6] ∧ Lst TurnAt H' f o ∧ o.length = i + 1 ∧ ordL 0 ps = goE o (ordL (i + 1) (ps.drop (i + 1))) ∧ Same H H' ∧ H' lp = some (.lst (ps.map V.str)), rt := Q } [some kv, some (.str x), some (.ref f), some (.int (i : Nat)), some (.str p), some (.ref lw), some (.int n)] (upd H7 tw (.tup [.str "up", .str "down"]))
          refine ⟨_, rfl, .inl ⟨rfl, _, SqL.of ef8⟩, _, rfl, _, rfl, ixL (s8 _ _ elw7) (j := 1) rfl rfl ⟨szle (by show 2 ≤ 100000; decide), fun tt htt => ?_⟩⟩
          generalize upd H7 tw (.tup [.str "up", .str "down"]) = H8 at s8 s08 s48 ef8 htt ⊢
          generalize gX : upd _ tt _ = H9
          have s9 := newS htt gX
          have ett := newE gX
          clear gX
          have s49 := s48.trans s9
          have ef9 := s9 _ _ ef8
          have t10 : TupLe H9 (upd H9 f (.lst (fv ++ [.ref tt]))) := (TupLe.refl _).list ef9
          refine ⟨_, _, _, rfl, rfl, ef9, szlt (by omega), _, _, _, _, o ++ [(n.toNat, w)], rfl, ⟨_, upd_same, ?_⟩, by rw [List.length_append, ol]; rfl, ord, Rs.Same.mut (s08.trans s9) hf0, up (s49 _ _ elp4) nflp⟩
          refine P2.app (Paired.tl TurnAt.st ((TupLe.same s49).trans t10) pf) (P2.one (TurnAt.st _ _ _ _ t10 ⟨tt, rfl, ?_⟩))
          rw [ett]
          show some (HO.tup [V.int n, V.str (wayS w)]) = some (HO.tup [V.int ((n.toNat : Nat) : Int), V.str (wayS w)])
          rw [show ((n.toNat : Nat) : Int) = n by omega]
        by_cases cu : b = ("up" : Str)
        · rw [decide_eq_true (show ("up" : Str) = b from cu.symm), Bool.true_or]
          exact good true cu.symm (by rw [part, hn]; dsimp only; rw [if_pos cu])
        · rw [decide_eq_false (show ¬ ("up" : Str) = b from fun z => cu z.symm), Bool.false_or]
          by_cases cd : b = ("down" : Str)
          · rw [decide_eq_true (show ("down" : Str) = b from cd.symm)]
            exact good false cd.symm (by rw [part, hn]; dsimp only; rw [if_neg cu, if_pos cd])
          · rw [decide_eq_false (show ¬ ("down" : Str) = b from fun z => cd z.symm)]
            exact ⟨_, rfl, _, rfl, fun d hd => bad _ s08 (by rw [part, hn]; dsimp only; rw [if_neg cu, if_neg cd]) d hd⟩
    · rintro σ H4 ⟨x3, x4, x5, x6, o, rfl, Lf, ol, ord, s4, _⟩
      rw [List.drop_of_length_le (by simp)] at ord
      have ord : ordL 0 ps = .inr o := by rw [ord]; show Sum.inr (o ++ []) = Sum.inr o; rw [List.append_nil]
      obtain ⟨k1, k2⟩ := kg o ord
      rw [List.length_map] at ol
      refine ⟨_, rfl, _, rfl, ks, o, hk.mono (TupLe.same s4), ⟨f, rfl, Lf⟩, by omega, fun go H5 s5 => ?_, fun go H5 s5 => k2 go H5 (s4.trans s5)⟩
      exact ⟨_, rfl, k1 go f H5 hf0 (Lf.same TurnAt.st s5) (s4.trans s5)⟩
end Rs

namespace Rs
open PySem PySem.Spec PyProof.Rows L2
open LamX
abbrev N_law_order_due : List Str := ["_law_kinds_here", "_law_text", "_law_found", "_law_place", "_law_part", "_law_words", "_law_columns", "_law_good", "_law_column", "_law_way"]
abbrev P_law_order_due : List Str := ["_law_kinds_here", "_law_text"]
open _root_.TL
def OrdTold (ks : List Str) (x : Str) (H0 : Hp) (Q : VK) : Prop :=
    (∀ n, ordL 0 (Txt.split x (", " : Str)) = .inl n → ∀ t H', H0 t = none → H' t = some (.tup [.str "BadText", .int (n : Int)]) → Same H0 H' → Q (.ref t) H') ∧
    ∀ o, ordL 0 (Txt.split x (", " : Str)) = .inr o → (GoodOrd ks o → ∀ l H', H0 l = none → Lst TurnAt H' l o → Same H0 H' → Q (.ref l) H') ∧ (¬ GoodOrd ks o → ∀ t H', H0 t = none → H' t = some (.tup [.str "BadOrder", .int 0]) → Same H0 H' → Q (.ref t) H')
def sp_law_order_due (K : PySem.W.Frag) : Sp := fun vs H Q E => match vs with
  | [kv, tv] => ∃ ks x, KindsAt H kv ks ∧ tv = .str x ∧ x.length ≤ 1000 ∧ OrdTold ks x H Q
  | _ => False
def t_law_order_due (K : PySem.W.Frag) (E : XK) : TS := (tSeq (tAsg (tLst tNil) (gName 2))
  (tSeq (tFor (iEnum K (tCons (tM1 xSplit (tVar 1) (tC (.str ", "))) tNil)) (gTup K 2 (gCons (gName 3) (gCons (gName 4) gNil))) 
     (tSeq (tAsg (tM1 xSplit (tVar 4) (tC (.str " "))) (gName 5))
     (tSeq (tIfS (tOr (tTest (tOpC rNe (tCB1 (xLen K) (tVar 5)) (.int 2))) (tOr (tTest (tOpC rIsN (tCall (sp_law_number K) [] E (tCons (tOpC (rIxL K) (tVar 5) (.int 0)) tNil)) .non)) (tTest (tOp (rIn K true) (tOpC (rIxL K) (tVar 5) (.int 1)) (tTup (tConsC (.str "up") (tConsC (.str "down") tNil))))))) (tRet (tTup (tConsC (.str "BadText") (tCons (tVar 3) tNil)))) tNext)
      (tDrop (tBM K "list" rAppend (tVar 2) (tCons (tTup (tCons (tCall (sp_law_number K) [] E (tCons (tOpC (rIxL K) (tVar 5) (.int 0)) tNil)) (tCons (tOpC (rIxL K) (tVar 5) (.int 1)) tNil))) tNil))))))
   (tSeq (tAsg (tLc (iList K (tVar 2)) (gTup K 2 (gCons (gName 8) (gCons (gName 9) gNil))) tYes (tVar 8) [8, 9]) (gName 6))
    (tSeq (tAsg (tAndV (tOp xLt (tCB1 (rMax K) (tVar 6)) (tCB1 (xLen K) (tVar 0))) (tOp rEq (tLenSetX K (tVar 6)) (tCB1 (xLen K) (tVar 6)))) (gName 7))
     (tRet (tIf (tB (tVar 7)) (tVar 2) (tTup (tConsC (.str "BadOrder") (tConsC (.int 0) tNil)))))))))
theorem pure_law_order_due {K : PySem.W.Frag} : ∀ vs H Q E, sp_law_order_due K vs H Q E → t_law_order_due K E { nx := fun _ H' => Q .non H', rt := Q } (start N_law_order_due vs) H := by
  intro vs H Q E hyp
  match vs, hyp with
  | [kv, tv], hyp =>
    obtain ⟨ks, x, hk, rfl, xl, kb, kg⟩ := hyp
    have pfew := split_few (x := x) sep_comma
    have ppart := fun w m => split_part (x := x) (w := w) sep_comma m
    generalize hps : Txt.split x (", " : Str) = ps at pfew ppart kb kg
    refine ⟨sz0, fun f hf => ?_⟩
    have hf0 : H f = none := hf
    generalize gX : upd _ f _ = H2
    have s02 := newS hf gX
    have ef := newE gX
    clear gX
    refine ⟨_, rfl, ⟨_, rfl⟩, x, ", ", rfl, rfl, by decide +kernel, szle (by omega), fun lp hlp => ?_⟩
    rw [hps]
    have nflp : lp ≠ f := (ne_of_none ef hlp).symm
    generalize gX : upd _ lp _ = H3
    have s3 := newS hlp gX
    have elp := newE gX
    clear gX
    have s03 := s02.trans s3
    refine ⟨lp, _, rfl, SqL.of elp, ?_⟩
    refine for_it (walk_enum (K := K) (a := lp) (xs := ps.map V.str)) (fun i σ H' => ∃ x3 x4 x5 o, σ = [some kv, some (.str x), some (.ref f), x3, x4, x5, none, none, none, none] ∧ Lst TurnAt H' f o ∧ o.length = i ∧ ordL 0 ps = goE o (ordL i (ps.drop i)) ∧ Same H H' ∧ H' lp = some (.lst (ps.map V.str)))
      ⟨none, none, none, [], rfl, ⟨[], s3 _ _ ef, .nil⟩, rfl, by rw [List.drop_zero]; cases ordL 0 ps <;> rfl, s03, elp⟩ ?_ ?_ ?_
    · rintro i σ H' _ ⟨_, _, _, _, _, _, _, _, _, e⟩
      exact SqL.of e
    · rintro i v σ H4 H5 hi ⟨x3, x4, x5, o, rfl, ⟨fv, ef4, pf⟩, ol, ord, s4, elp4⟩ ⟨T, x1, w, rfl, hT, rfl, hx1, hw⟩
      cases hx1
      have hw : (ps.map V.str)[i]? = some w := hw
      rw [List.getElem?_map] at hw
      obtain ⟨p, hp, rfl⟩ := Option.map_eq_some_iff.mp hw
      have hil := (List.getElem?_eq_some_iff.mp hp).1
      have lf := pf.length
      have dr : ps.drop i = p :: ps.drop (i + 1) := drop_cons hp
      rw [dr] at ord
      have pl := ppart p (List.mem_of_getElem? hp)
      have bad : ∀ (H' : Hp), Same H H' → partOf p = none → ∀ (D : Ends) (σ : L2.St), D.rt = Q → σ[3]? = some (some (.int ((i : Nat) : Int))) → (tRet (tTup (tConsC (.str "BadText") (tCons (tVar 3) tNil)))) D σ H' := fun H' s e D σ hD h3 => by
        rw [goE_bad e] at ord
        refine ⟨_, h3, szle (by show 2 ≤ 100000; decide), fun t ht => ?_⟩
        rw [hD]
        exact kb i ord t _ (s.free ht) upd_same (s.trans (Rs.Same.new ht))
      have s5 : Same H4 (upd H4 T (.tup [.int (i : Nat), .str p])) := Rs.Same.new hT
      refine ⟨T, _, rfl, SqT.of upd_same, rfl, _, _, rfl, _, _, rfl, rfl, ?_⟩
      refine ⟨_, rfl, ⟨_, rfl⟩, p, " ", rfl, rfl, by decide +kernel, szle (by omega), fun lw hlw => ?_⟩
      have wne := split_ne (x := p) sep_blank
      have wpart := fun w m => split_part (x := p) (w := w) sep_blank m
      have wfew := split_few (x := p) sep_blank
      have part : partOf p = match Txt.split p (" " : Str) with
        | [a, b] => (match numOf a with
          | some n => if b = ("up" : Str) then some (n.toNat, true) else if b = ("down" : Str) then some (n.toNat, false) else none
          | none => none)
        | _ => none := rfl
      generalize Txt.split p (" " : Str) = ws at wne wpart part wfew
      generalize gX : upd H4 T (.tup [.int (i : Nat), .str p]) = H5' at s5 hlw ⊢
      clear gX
      generalize gX : upd _ lw _ = H6
      have s6 := newS hlw gX
      have elw := newE gX
      clear gX
      have s46 := s5.trans s6
      obtain ⟨a, r, rfl⟩ : ∃ a r, ws = a :: r := by
        cases ws with
        | nil => exact absurd rfl wne
        | cons a r => exact ⟨a, r, rfl⟩
      have al := wpart a (by simp)
      refine ⟨_, rfl, lenL elw rfl ⟨rfl, _, rfl, ?_⟩⟩
      have s06 := s4.trans s46
      have el : ((a :: r).map V.str).length = r.length + 1 := by simp
      rw [el]
      by_cases c2 : r.length = 1
      rotate_left
      · have e2 : (!decide (V.int ((r.length + 1 : Nat) : Int) = V.int 2)) = true := by
          rw [decide_eq_false fun e => c2 (by injection e with e; omega)]
          rfl
        rw [e2]
        refine bad H6 s06 ?_ _ _ rfl rfl
        rw [part]
        match r, c2 with
        | [], _ => rfl
        | [b], c2 => exact absurd rfl c2
        | b :: c :: r, _ => rfl
      obtain ⟨b, rfl⟩ := List.length_eq_one_iff.mp c2
      have e2 : (!decide (V.int (([b].length + 1 : Nat) : Int) = V.int 2)) = false := rfl
      rw [e2]
      refine ⟨_, rfl, ixL elw (j := 0) rfl rfl ⟨a, rfl, by omega, fun v H7 hv s7 => ⟨rfl, _, rfl, ?_⟩⟩⟩
      have elw7 := s7 _ _ elw
      have s47 := s46.trans s7
      have s07 := s4.trans s47
      dsimp only at part
      cases hn : numOf a with
      | none =>
        rw [hn] at hv
        have hv : v = .non := hv
        subst hv
        rw [decide_eq_true (rfl : V.non = V.non)]
        exact bad H7 s07 (by rw [part, hn]) _ _ rfl rfl
      | some n =>
        rw [hn] at hv
        have hv : v = .int n := hv
        subst hv
        rw [decide_eq_false (show ¬ V.int n = V.non from fun z => by cases z)]
        refine ⟨_, rfl, ixL elw7 (j := 1) rfl rfl ⟨szle (by show 2 ≤ 100000; decide), fun tw htw => ⟨tw, _, rfl, .inr (SqT.of upd_same), rfl, rfl, _, rfl, ?_⟩⟩⟩
        have s8 := Rs.Same.new (o := .tup [.str "up", .str "down"]) htw
        have s08 := s07.trans s8
        rw [if_pos rfl, in_two]
        have n0 := (numOf_nat hn).1
        have good : ∀ w : Bool, wayS w = b → partOf p = some (n.toNat, w) → _ := fun w ew pe => by
          subst ew
          rw [goE_step pe] at ord
          have s48 := s47.trans s8
          have ef8 := s48 _ _ ef4
          show (tDrop (tBM K "list" rAppend (tVar 2) (tCons (tTup (tCons (tCall (sp_law_number K) [] E (tCons (tOpC (rIxL K) (tVar 5) (.int 0)) tNil)) (tCons (tOpC (rIxL K) (tVar 5) (.int 1)) tNil))) tNil))) { nx := fun σ H' => ∃ x3 x4 x5 o, σ = [some kv, some (.str x), some (.ref f), x3, x4, x5, none, none, none, none] ∧ Lst TurnAt H' f o ∧ o.length = i + 1 ∧ ordL 0 ps = goE o (ordL (i + 1) (ps.drop (i + 1))) ∧ Same H H' ∧ H' lp = some (.lst (ps.map V.str)), rt := Q } [some kv, some (.str x), some (.ref f), some (.int (i : Nat)), some (.str p), some (.ref lw), none, none, none, none] (upd H7 tw (.tup [.str "up", .str "down"]))
          generalize upd H7 tw (.tup [.str "up", .str "down"]) = H8 at s8 s08 s48 ef8 ⊢
          refine ⟨_, rfl, .inl ⟨rfl, _, SqL.of ef8⟩, _, rfl, ixL (s8 _ _ elw7) (j := 0) rfl rfl ⟨a, rfl, by omega, fun v2 HA hv2 sA => ?_⟩⟩
          rw [hn] at hv2
          have hv2 : v2 = .int n := hv2
          subst hv2
          have efA := sA _ _ ef8
          refine ⟨_, rfl, ixL (sA _ _ (s8 _ _ elw7)) (j := 1) rfl rfl ⟨szle (by show 2 ≤ 100000; decide), fun tt htt => ?_⟩⟩
          generalize gX : upd _ tt _ = H9
          have s9 := newS htt gX
          have ett := newE gX
          clear gX
          have s49 := (s48.trans sA).trans s9
          have ef9 := s9 _ _ efA
          have t10 : TupLe H9 (upd H9 f (.lst (fv ++ [.ref tt]))) := (TupLe.refl _).list ef9
          refine ⟨_, _, _, rfl, rfl, ef9, szlt (by omega), _, _, _, o ++ [(n.toNat, w)], rfl, ⟨_, upd_same, ?_⟩, by rw [List.length_append, ol]; rfl, ord, Rs.Same.mut ((s08.trans sA).trans s9) hf0, up (s49 _ _ elp4) nflp⟩
          refine P2.app (Paired.tl TurnAt.st ((TupLe.same s49).trans t10) pf) (P2.one (TurnAt.st _ _ _ _ t10 ⟨tt, rfl, ?_⟩))
          rw [ett]
          show some (HO.tup [V.int n, V.str (wayS w)]) = some (HO.tup [V.int ((n.toNat : Nat) : Int), V.str (wayS w)])
          rw [show ((n.toNat : Nat) : Int) = n by omega]
        by_cases cu : b = ("up" : Str)
        · rw [decide_eq_true (show ("up" : Str) = b from cu.symm), Bool.true_or]
          exact good true cu.symm (by rw [part, hn]; dsimp only; rw [if_pos cu])
        · rw [decide_eq_false (show ¬ ("up" : Str) = b from fun z => cu z.symm), Bool.false_or]
          by_cases cd : b = ("down" : Str)
          · rw [decide_eq_true (show ("down" : Str) = b from cd.symm)]
            exact good false cd.symm (by rw [part, hn]; dsimp only; rw [if_neg cu, if_pos cd])
          · rw [decide_eq_false (show ¬ ("down" : Str) = b from fun z => cd z.symm)]
            exact bad _ s08 (by rw [part, hn]; dsimp only; rw [if_neg cu, if_neg cd]) _ _ rfl rfl
    · rintro σ H4 ⟨x3, x4, x5, o, rfl, ⟨fv, ef4, pf⟩, ol, ord, s4, _⟩
      rw [List.drop_of_length_le (by simp)] at ord
      have ord : ordL 0 ps = .inr o := by rw [ord]; show Sum.inr (o ++ []) = Sum.inr o; rw [List.append_nil]
      obtain ⟨k1, k2⟩ := kg o ord
      rw [List.length_map] at ol
      have lf := pf.length
      have pne : ps.length ≠ 0 := fun z => by
        have := split_ne (x := x) sep_comma
        rw [hps] at this
        exact this (List.eq_nil_of_length_eq_zero z)
      refine ⟨_, rfl, f, rfl, ⟨_, SqL.of ef4⟩, fun D hD => ?_⟩
      refine lcm_list (S := IntAt) (fun t : Nat × Bool => some (t.1 : Int)) IntAt.st ef4 pf hD ?_ (by omega) ?_
      · intro j v t H' hx hj r s2 skip put
        obtain ⟨ta, rfl, ea⟩ := TurnAt.st _ _ _ _ (TupLe.same s2) r
        exact ⟨ta, _, rfl, SqT.of ea, rfl, _, _, rfl, _, _, rfl, rfl, rfl, lc_yes ⟨_, rfl, put _ _ _ (Same.refl _) rfl rfl⟩⟩
      intro H5 L5 s5
      rw [fm_some] at L5
      have eD := Lst.ints.mp L5
      have s05 := s4.trans s5
      obtain ⟨kt, rfl, hkt⟩ := hk.mono (TupLe.same s05)
      have cast : (o.map fun t => (t.1 : Int)) = (o.map (·.1)).map fun (n : Nat) => (n : Int) := by rw [List.map_map]; rfl
      have uncast : (o.map fun t => (t.1 : Int)).Nodup → (o.map (·.1)).Nodup := fun h => by
        rw [cast] at h
        unfold List.Nodup at h ⊢
        rw [List.pairwise_map] at h
        exact List.Pairwise.imp (fun {a b} q e => q (by rw [e])) h
      have one : o ≠ [] := fun z => pne (by rw [← ol, z]; rfl)
      have fin : ∀ (b : Bool), (b = true ↔ GoodOrd ks o) → (tRet (tIf (tB (tVar 7)) (tVar 2) (tTup (tConsC (.str "BadOrder") (tConsC (.int 0) tNil))))) { nx := fun _ H' => Q .non H', rt := Q } [some (.ref kt), some (.str x), some (.ref f), x3, x4, x5, some (.ref D), some (.bl b), none, none] H5 := fun b hb => by
        refine ⟨_, rfl, b, rfl, ?_⟩
        cases b with
        | true => exact ⟨_, rfl, k1 (hb.mp rfl) f H5 hf0 ⟨fv, s5 _ _ ef4, Paired.tl TurnAt.st (TupLe.same s5) pf⟩ s05⟩
        | false => exact ⟨szle (by show 2 ≤ 100000; decide), fun t ht => k2 (fun g => by have := hb.mpr g; cases this) t _ (s05.free ht) upd_same (s05.trans (Rs.Same.new ht))⟩
      have ne : (o.map fun t => (t.1 : Int)) ≠ [] := fun z => one (List.map_eq_nil_iff.mp z)
      refine ⟨_, rfl, D, _, rfl, SqL.of eD, List.length_pos_iff.mpr ne, fun m hm hmax => ⟨_, rfl, _, _, rfl, .inr (SqT.of hkt), _, _, rfl, rfl, _, rfl, ?_⟩⟩
      rw [List.length_map]
      by_cases c : m < (ks.length : Int)
      · rw [decide_eq_true c]
        have col : ∀ t ∈ o, t.1 < ks.length := fun t ht => by
          have := hmax (t.1 : Int) (List.mem_map.mpr ⟨t, ht, rfl⟩)
          omega
        refine ⟨_, rfl, D, _, rfl, SqL.of eD, by rw [List.length_map]; omega, _, rfl, _, _, rfl, .inl (SqL.of eD), rfl, ?_⟩
        rw [List.length_map]
        refine fin _ ⟨fun h => ⟨one, col, uncast (dcount_eq (by
          have h := of_decide_eq_true h
          injection h with h
          rw [List.length_map] at h ⊢
          omega))⟩, fun g => decide_eq_true (by
          have nd := nodup_cast g.nd
          rw [← cast] at nd
          rw [dcount_nodup nd, List.length_map])⟩
      · rw [decide_eq_false c]
        obtain ⟨t, ht, e⟩ := List.mem_map.mp hm
        have nb : ¬ GoodOrd ks o := fun g => by
          have := g.col t ht
          omega
        exact fin false ⟨fun z => (by cases z), fun g => (nb g).elim⟩
end Rs

namespace Rs
open PySem PySem.Spec PyProof.Rows L2
open LamX
inductive PR where
  | err (n : Nat)
  | ok (p : Pl)
def lw : List Pl → List (List Pl) → Nat → List Str → PR
  | top, rest, k, [] => if rest.isEmpty = true then (match top with | [] => .err k | p :: _ => .ok p) else .err k
  | top, rest, k, w :: r =>
    if (rest.isEmpty && !top.isEmpty) = true then .err k
    else if w = ("(" : Str) then lw [] (top :: rest) (k + 1) r
    else if w = (")" : Str) ∧ (!rest.isEmpty && !top.isEmpty) = true then lw (rest.headD [] ++ [.node top]) rest.tail (k + 1) r
    else match numOf w with
      | some n => lw (top ++ [.leaf n]) rest (k + 1) r
      | none => .err k
def Ready (ws : List Str) (i : Nat) (top : List Pl) (rest : List (List Pl)) : Prop := (rest.isEmpty && !top.isEmpty) = false ∧ (ws[i]? = some (")" : Str) → rest.isEmpty = true)
theorem lw_nil (top : List Pl) (rest : List (List Pl)) (k : Nat) : lw top rest k [] = if rest.isEmpty = true then (match top with | [] => .err k | p :: _ => .ok p) else .err k := by
  unfold lw
  rfl
def PFe (ws : List Str) (i n : Nat) : Prop := ∀ top rest, Ready ws i top rest → lw top rest i (ws.drop i) = .err n
def PFok (ws : List Str) (i : Nat) (p : Pl) (j : Nat) : Prop := i < j ∧ j ≤ ws.length ∧ ∀ top rest, Ready ws i top rest → lw top rest i (ws.drop i) = lw (top ++ [p]) rest j (ws.drop j)
def cntO (ws : List Str) : Nat := ws.countP fun w => decide (w = ("(" : Str))
theorem cntO_drop {ws : List Str} {i j : Nat} (h : i ≤ j) : cntO (ws.drop j) ≤ cntO (ws.drop i) := by
  have e : ws.drop j = (ws.drop i).drop (j - i) := by rw [List.drop_drop]; congr 1; omega
  rw [e]
  exact (List.drop_sublist _ _).countP_le
structure PlN (p : Pl) (n c : Nat) : Prop where
  dep : p.depth ≤ c
  slim : p.slim
  runs : p.runs.length ≤ n
  all : ∀ r ∈ p.runs, 0 ≤ r ∧ r < 100
theorem lw_num {top : List Pl} {rest : List (List Pl)} {k : Nat} {w : Str} {r : List Str} (rd : (rest.isEmpty && !top.isEmpty) = false) (h1 : w ≠ ("(" : Str)) (h2 : w ≠ (")" : Str)) {n : Int} (hn : numOf w = some n) : lw top rest k (w :: r) = lw (top ++ [.leaf n]) rest (k + 1) r := by
  rw [lw, if_neg (by rw [rd]; decide), if_neg h1, if_neg (fun z => h2 z.1), hn]
theorem lw_bad {top : List Pl} {rest : List (List Pl)} {k : Nat} {w : Str} {r : List Str} (h1 : w ≠ ("(" : Str)) (h2 : w = (")" : Str) → (!rest.isEmpty && !top.isEmpty) = false) (hn : numOf w = none) : lw top rest k (w :: r) = .err k := by
  rw [lw]
  by_cases c : (rest.isEmpty && !top.isEmpty) = true
  · rw [if_pos c]
  · rw [if_neg c, if_neg h1, if_neg (fun z => by rw [h2 z.1] at z; exact absurd z.2 (by decide)), hn]
theorem lw_open {top : List Pl} {rest : List (List Pl)} {k : Nat} {r : List Str} (rd : (rest.isEmpty && !top.isEmpty) = false) : lw top rest k (("(" : Str) :: r) = lw [] (top :: rest) (k + 1) r := by
  rw [lw, if_neg (by rw [rd]; decide), if_pos rfl]
theorem close_ne : ¬ (")" : Str) = ("(" : Str) := by decide +kernel
theorem lw_close {top t : List Pl} {rest : List (List Pl)} {k : Nat} {r : List Str} (h : top ≠ []) : lw top (t :: rest) k ((")" : Str) :: r) = lw (t ++ [.node top]) rest (k + 1) r := by
  have e : (!top.isEmpty) = true := by cases top with | nil => exact absurd rfl h | cons _ _ => rfl
  rw [lw, if_neg (by rw [show (t :: rest).isEmpty = false from rfl, Bool.false_and]; decide), if_neg close_ne, if_pos ⟨rfl, by rw [e]; rfl⟩]
  rfl
theorem num_close : numOf (")" : Str) = none ∧ numOf ("(" : Str) = none ∧ numOf ("" : Str) = none := by decide +kernel
theorem num_odd {w : Str} {n : Int} (h : numOf w = some n) : w ≠ ("(" : Str) ∧ w ≠ (")" : Str) := ⟨fun z => (by rw [z, num_close.2.1] at h; cases h), fun z => by rw [z, num_close.1] at h; cases h⟩
abbrev N_plan_fromX : List Str := ["words", "place", "word", "number", "found", "part"]
abbrev P_plan_fromX : List Str := ["words", "place"]
open _root_.TL
def spr_plan_fromX (K : PySem.W.Frag) (d : Nat) : Sp := fun vs H Q E => match vs with
  | [wv, iv] => ∃ (l : Addr) (ws : List Str) (i : Nat), wv = .ref l ∧ H l = some (.lst (ws.map V.str)) ∧ ws.length ≤ 1001 ∧ (∀ w ∈ ws, w.length ≤ 1000) ∧ iv = .int (i : Int) ∧ i ≤ ws.length ∧ cntO (ws.drop i) < d ∧
    (∀ n dd H1, PFe ws i n → H1 dd = none → Same H H1 → E (.ref (He.ga K "BadText")) (some dd) (upd H1 dd (.xd [(("place" : Str), .int (n : Int))]))) ∧
    ∀ p j t v H', PFok ws i p j → PlN p (j - i) (cntO (ws.drop i)) → H t = none → H' t = some (.tup [v, .int ((j : Nat) : Int)]) → PlR H' v p → Same H H' → Q (.ref t) H'
  | _ => False
abbrev sp_plan_fromX (K : PySem.W.Frag) : Sp := spr_plan_fromX K 72
theorem no_plan_fromX (K : PySem.W.Frag) : ∀ vs H Q E, ¬ spr_plan_fromX K 0 vs H Q E := fun vs H Q E h => by
  unfold spr_plan_fromX at h
  match vs, h with
  | [_, _], ⟨_, _, _, _, _, _, _, _, _, h1, _⟩ => omega
theorem len_plan_fromX (K : PySem.W.Frag) : ∀ d vs H Q E, spr_plan_fromX K d vs H Q E → vs.length = 2 := fun d vs H Q E h => by
  unfold spr_plan_fromX at h
  match vs, h with
  | [_, _], _ => rfl
def t_plan_fromX (K : PySem.W.Frag) (sp : Sp) (E : XK) : TS := (tSeq (tAsg (tIf (tTest (tOp xLt (tVar 1) (tCB1 (xLen K) (tVar 0)))) (tOp (rIxL K) (tVar 0) (tVar 1)) (tC (.str ""))) (gName 2))
  (tSeq (tIfS (tTest (tOpC rNe (tVar 2) (.str "("))) 
     (tSeq (tAsg (tCall (sp_number_of K) [] E (tCons (tVar 2) tNil)) (gName 3))
     (tSeq (tIfS (tTest (tOpC rIsN (tVar 3) .non)) (tRaiseX K "BadText" "place" E (tCons (tVar 1) tNil)) tNext)
      (tRet (tTup (tCons (tVar 3) (tCons (tOpC xAdd (tVar 1) (.int 1)) tNil)))))) tNext)
   (tSeq (tAsg (tLst tNil) (gName 4))
    (tSeq (tAsg (tOpC xAdd (tVar 1) (.int 1)) (gName 1))
     (tSeq (tWhile (tAnd (tTest (tOp xLt (tVar 1) (tCB1 (xLen K) (tVar 0)))) (tTest (tOpC rNe (tOp (rIxL K) (tVar 0) (tVar 1)) (.str ")")))) 
        (tSeq (tAsg (tCall sp [] E (tCons (tVar 0) (tCons (tVar 1) tNil))) (gTup K 2 (gCons (gName 5) (gCons (gName 1) gNil))))
        (tDrop (tBM K "list" rAppend (tVar 4) (tCons (tVar 5) tNil)))))
      (tSeq (tIfS (tOr (tTest (tOp rEq (tVar 1) (tCB1 (xLen K) (tVar 0)))) (tTest (tOp (xEqE K) (tVar 4) (tLst tNil)))) (tRaiseX K "BadText" "place" E (tCons (tVar 1) tNil)) tNext)
       (tRet (tTup (tCons (tCB1 (xTuple K) (tVar 4)) (tCons (tOpC xAdd (tVar 1) (.int 1)) tNil))))))))))
theorem depthL_all {ps : List Pl} {c : Nat} (h : ∀ p ∈ ps, p.depth ≤ c) : Pl.depthL ps ≤ c := by
  induction ps with
  | nil => exact Nat.zero_le _
  | cons p ps ih =>
    rw [Pl.depthL]
    have a := h p (List.mem_cons_self ..)
    have b := ih fun q hq => h q (List.mem_cons_of_mem _ hq)
    omega
theorem slimL_all {ps : List Pl} (h : ∀ p ∈ ps, p.slim) : Pl.slimL ps := by
  induction ps with
  | nil => trivial
  | cons p ps ih => exact ⟨h p (List.mem_cons_self ..), ih fun q hq => h q (List.mem_cons_of_mem _ hq)⟩
theorem runsL_one (ps : List Pl) (p : Pl) : Pl.runsL (ps ++ [p]) = Pl.runsL ps ++ p.runs := by
  rw [Pl.runsL_map, Pl.runsL_map, List.map_append, List.flatten_append]
  simp
theorem pure_plan_fromX {K : PySem.W.Frag} (d : Nat) : ∀ vs H Q E, spr_plan_fromX K (d + 1) vs H Q E → t_plan_fromX K (spr_plan_fromX K d) E { nx := fun _ H' => Q .non H', rt := Q } (start N_plan_fromX vs) H := by
  intro vs H Q E hyp
  unfold spr_plan_fromX at hyp
  match vs, hyp with
  | [wv, iv], hyp =>
    obtain ⟨l, ws, i, rfl, hl, hwl, hws, rfl, hi, hc, ke, kg⟩ := hyp
    have lm : (ws.map V.str).length = ws.length := List.length_map ..
    -- the word at i
    have lw1 : ∀ (w : Str), w.length ≤ 1000 → (w = ("(" : Str) → i < ws.length) → (∀ top rest, Ready ws i top rest → numOf w = none → w ≠ ("(" : Str) → lw top rest i (ws.drop i) = .err i) → (∀ n, numOf w = some n → i < ws.length ∧ ∀ top rest, Ready ws i top rest → lw top rest i (ws.drop i) = lw (top ++ [.leaf n]) rest (i + 1) (ws.drop (i + 1))) → (w = ("(" : Str) → ws.drop i = ("(" : Str) :: ws.drop (i + 1)) →
        ∀ x3 x4 x5 : Option V, (tSeq (tIfS (tTest (tOpC rNe (tVar 2) (.str "("))) 
     (tSeq (tAsg (tCall (sp_number_of K) [] E (tCons (tVar 2) tNil)) (gName 3))
     (tSeq (tIfS (tTest (tOpC rIsN (tVar 3) .non)) (tRaiseX K "BadText" "place" E (tCons (tVar 1) tNil)) tNext)
      (tRet (tTup (tCons (tVar 3) (tCons (tOpC xAdd (tVar 1) (.int 1)) tNil)))))) tNext)
   (tSeq (tAsg (tLst tNil) (gName 4))
    (tSeq (tAsg (tOpC xAdd (tVar 1) (.int 1)) (gName 1))
     (tSeq (tWhile (tAnd (tTest (tOp xLt (tVar 1) (tCB1 (xLen K) (tVar 0)))) (tTest (tOpC rNe (tOp (rIxL K) (tVar 0) (tVar 1)) (.str ")")))) 
        (tSeq (tAsg (tCall (spr_plan_fromX K d) [] E (tCons (tVar 0) (tCons (tVar 1) tNil))) (gTup K 2 (gCons (gName 5) (gCons (gName 1) gNil))))
        (tDrop (tBM K "list" rAppend (tVar 4) (tCons (tVar 5) tNil)))))
      (tSeq (tIfS (tOr (tTest (tOp rEq (tVar 1) (tCB1 (xLen K) (tVar 0)))) (tTest (tOp (xEqE K) (tVar 4) (tLst tNil)))) (tRaiseX K "BadText" "place" E (tCons (tVar 1) tNil)) tNext)
       (tRet (tTup (tCons (tCB1 (xTuple K) (tVar 4)) (tCons (tOpC xAdd (tVar 1) (.int 1)) tNil)))))))) : TS) { nx := fun _ H' => Q .non H', rt := Q } [some (.ref l), some (.int (i : Int)), some (.str w), x3, x4, x5] H := by
      intro w wl wi hbad hnum hopen x3 x4 x5
      refine ⟨_, rfl, rfl, _, rfl, ?_⟩
      rw [dec_str]
      by_cases co : w = ("(" : Str)
      rotate_left
      · rw [decide_eq_false co]
        refine ⟨_, rfl, w, rfl, by omega, fun v H1 hv s1 => ?_⟩
        refine ⟨_, rfl, rfl, _, rfl, ?_⟩
        cases hn : numOf w with
        | none =>
          rw [hn] at hv
          have hv : v = .non := hv
          subst hv
          rw [decide_eq_true (rfl : V.non = V.non)]
          exact ⟨_, rfl, _, rfl, fun dd hd => ke i dd H1 (fun top rest rd => hbad top rest rd hn co) hd s1⟩
        | some n =>
          rw [hn] at hv
          have hv : v = .int n := hv
          subst hv
          rw [decide_eq_false (show ¬ V.int n = V.non from fun z => by cases z)]
          obtain ⟨hlt, hl2⟩ := hnum n hn
          refine ⟨_, rfl, _, rfl, _, _, rfl, rfl, szle (by show 2 ≤ 100000; decide), fun t ht => ?_⟩
          obtain ⟨m0, m1⟩ := numOf_nat hn
          exact kg (.leaf n) (i + 1) t (.int n) _ ⟨by omega, by omega, hl2⟩ ⟨by rw [Pl.depth]; exact Nat.zero_le _, trivial, by rw [Pl.runs]; show 1 ≤ _; omega, fun r hr => by rw [Pl.runs, List.mem_singleton] at hr; rw [hr]; exact ⟨m0, m1⟩⟩ (s1.free ht) upd_same (.leaf n) (s1.trans (Rs.Same.new ht))
      rw [decide_eq_true co]
      have hlt := wi co
      have hop := hopen co
      subst co
      have cnt : cntO (ws.drop i) = cntO (ws.drop (i + 1)) + 1 := by
        rw [hop]
        unfold cntO
        rw [List.countP_cons_of_pos (by simp)]
      refine ⟨sz0, fun f hf => ?_⟩
      have hf0 := hf
      generalize gX : upd _ f _ = H1
      have s1 := newS hf gX
      have ef := newE gX
      clear gX
      refine ⟨_, rfl, _, _, rfl, rfl, ?_⟩
      refine ⟨fun m σ H' => ∃ (j : Nat) (ps : List Pl) (x3 x5 : Option V), m = ws.length - j ∧ i < j ∧ j ≤ ws.length ∧ σ = [some (.ref l), some (.int ((j : Nat) : Int)), some (.str "("), x3, some (.ref f), x5] ∧ Lst PlR H' f ps ∧ Same H H' ∧ (∀ top rest, Ready ws i top rest → lw top rest i (ws.drop i) = lw ps (top :: rest) j (ws.drop j)) ∧
          (∀ p ∈ ps, p.depth ≤ cntO (ws.drop (i + 1)) ∧ p.slim) ∧ ps.length ≤ j - i - 1 ∧ (Pl.runsL ps).length ≤ j - i - 1 ∧ ∀ r ∈ Pl.runsL ps, 0 ≤ r ∧ r < 100, ⟨_, i + 1, [], x3, x5, rfl, by omega, by omega, rfl, ⟨[], ef, .nil⟩, s1, fun top rest rd => by rw [hop, lw_open rd.1], by simp, by simp, by simp [Pl.runsL], by simp [Pl.runsL]⟩, ?_⟩
      rintro m σ H2 ⟨j, ps, x3, x5, rfl, hij, hj, rfl, ⟨fv, ef2, pf⟩, s2, hlw, hps, hlen, hrl, hra⟩
      have hl2 := s2 _ _ hl
      have lf := pf.length
      -- behind the loop
      have fin : ∀ (D : Ends), D = { nx := fun _ H' => Q .non H', rt := Q } → (ws.drop j = [] ∨ ∃ r, ws.drop j = (")" : Str) :: r ∧ r = ws.drop (j + 1)) → (tSeq (tIfS (tOr (tTest (tOp rEq (tVar 1) (tCB1 (xLen K) (tVar 0)))) (tTest (tOp (xEqE K) (tVar 4) (tLst tNil)))) (tRaiseX K "BadText" "place" E (tCons (tVar 1) tNil)) tNext)
       (tRet (tTup (tCons (tCB1 (xTuple K) (tVar 4)) (tCons (tOpC xAdd (tVar 1) (.int 1)) tNil))))) D [some (.ref l), some (.int ((j : Nat) : Int)), some (.str "("), x3, some (.ref f), x5] H2 := fun D hD hend => by
        subst hD
        refine ⟨_, rfl, _, rfl, lenL hl2 rfl ⟨rfl, _, rfl, ?_⟩⟩
        rw [lm]
        by_cases ce : j = ws.length
        · rw [decide_eq_true (show V.int ((j : Nat) : Int) = V.int ((ws.length : Nat) : Int) by rw [ce])]
          refine ⟨_, rfl, _, rfl, fun dd hd => ke j dd H2 (fun top rest rd => ?_) hd s2⟩
          rw [hlw top rest rd, ce, List.drop_length, lw_nil]
          rfl
        rw [decide_eq_false (show ¬ V.int ((j : Nat) : Int) = V.int ((ws.length : Nat) : Int) from fun z => ce (by injection z with z; omega))]
        have hjl : j < ws.length := by omega
        obtain ⟨r, er, hr⟩ : ∃ r, ws.drop j = (")" : Str) :: r ∧ r = ws.drop (j + 1) := by
          rcases hend with z | z
          · exfalso
            have := congrArg List.length z
            rw [List.length_drop, List.length_nil] at this
            omega
          · exact z
        refine ⟨_, rfl, sz0, fun q hq => eqE ef2 hq (b := fv.isEmpty) rfl ⟨_, rfl, ?_⟩⟩
        have s3 : Same H2 (upd H2 q (.lst [])) := Rs.Same.new hq
        have ef3 := s3 _ _ ef2
        generalize upd H2 q (.lst []) = H3 at s3 ef3 ⊢
        cases ps with
        | nil =>
          cases pf
          refine ⟨_, rfl, _, rfl, fun dd hd => ke j dd H3 (fun top rest rd => ?_) hd (s2.trans s3)⟩
          rw [hlw top rest rd, er]
          exact lw_bad close_ne (fun _ => by show (!false && !true) = false; rfl) num_close.1
        | cons p ps =>
          have fne : fv.isEmpty = false := by
            cases fv with
            | nil => simp at lf
            | cons a b => rfl
          rw [fne]
          refine ⟨_, rfl, f, fv, rfl, .inl ⟨SqL.of ef3, fun q2 hq2 => ?_⟩⟩
          generalize gX : upd _ q2 _ = H4
          have s4 := newS hq2 gX
          have eq2 := newE gX
          clear gX
          refine ⟨_, rfl, _, _, rfl, rfl, szle (by show 2 ≤ 100000; decide), fun t ht => ?_⟩
          have s04 := (s2.trans s3).trans s4
          have t0 := s04.free ht
          generalize gX : upd _ t _ = H5
          have s5 := newS ht gX
          have et := newE gX
          clear gX
          have hdep : (Pl.node (p :: ps)).depth ≤ cntO (ws.drop i) := by
            rw [Pl.depth, cnt]
            have := depthL_all (c := cntO (ws.drop (i + 1))) fun q hq => (hps q hq).1
            omega
          refine kg (.node (p :: ps)) (j + 1) t (.ref q2) H5 ⟨by omega, by omega, fun top rest rd => ?_⟩ ⟨hdep, ⟨by omega, slimL_all fun q hq => (hps q hq).2⟩, by rw [Pl.runs]; omega, by rw [Pl.runs]; exact hra⟩ t0 ?_ (PlR.node (s5 _ _ eq2) (Paired.tl PlR.st (TupLe.same ((s3.trans s4).trans s5)) pf)) (s04.trans s5)
          · rw [hlw top rest rd, er, lw_close (by simp), hr]
          · rw [et]
            rfl
      refine ⟨_, rfl, _, rfl, lenL hl2 rfl ⟨_, _, rfl, rfl, _, rfl, ?_⟩⟩
      by_cases hjl : j < ws.length
      rotate_left
      · rw [decide_eq_false (show ¬ ((j : Nat) : Int) < (((ws.map V.str).length : Nat) : Int) by rw [lm]; omega)]
        exact fin _ rfl (.inl (List.drop_of_length_le (by omega)))
      rw [decide_eq_true (show ((j : Nat) : Int) < (((ws.map V.str).length : Nat) : Int) by rw [lm]; omega)]
      have hx : (ws.map V.str)[j]? = some (.str ws[j]) := by rw [List.getElem?_map, List.getElem?_eq_getElem hjl]; rfl
      have hdj : ws.drop j = ws[j] :: ws.drop (j + 1) := List.drop_eq_getElem_cons hjl
      refine ⟨_, rfl, _, rfl, ixL hl2 (j := j) rfl hx ⟨rfl, _, rfl, ?_⟩⟩
      rw [dec_str]
      by_cases cc : ws[j] = (")" : Str)
      · rw [decide_eq_true cc]
        exact fin _ rfl (.inr ⟨_, by rw [hdj, cc], rfl⟩)
      rw [decide_eq_false cc]
      have rin : ∀ (a b : List Pl) (c : List (List Pl)), Ready ws j a (b :: c) := fun a b c => ⟨rfl, fun z => by
        rw [List.getElem?_eq_getElem hjl] at z
        exact absurd (Option.some.inj z) cc⟩
      have cm := cntO_drop (ws := ws) (i := i + 1) (j := j) (by omega)
      refine ⟨fun σ H' => ∃ (j' : Nat) (ps : List Pl) (x3 x5 : Option V), ws.length - j' < ws.length - j ∧ i < j' ∧ j' ≤ ws.length ∧ σ = [some (.ref l), some (.int ((j' : Nat) : Int)), some (.str "("), x3, some (.ref f), x5] ∧ Lst PlR H' f ps ∧ Same H H' ∧ (∀ top rest, Ready ws i top rest → lw top rest i (ws.drop i) = lw ps (top :: rest) j' (ws.drop j')) ∧
          (∀ p ∈ ps, p.depth ≤ cntO (ws.drop (i + 1)) ∧ p.slim) ∧ ps.length ≤ j' - i - 1 ∧ (Pl.runsL ps).length ≤ j' - i - 1 ∧ ∀ r ∈ Pl.runsL ps, 0 ≤ r ∧ r < 100, ?_, ?_⟩
      · rintro σ H' ⟨j', ps, x3, x5, q1, q2⟩
        exact ⟨_, q1, j', ps, x3, x5, rfl, q2⟩
      refine ⟨_, rfl, _, rfl, l, ws, j, rfl, hl2, hwl, hws, rfl, hj, by omega, fun n dd H3 pe hd s3 => ?_, fun p j2 t v H3 po pn ht et hv s3 => ?_⟩
      · exact ke n dd H3 (fun top rest rd => by rw [hlw top rest rd]; exact pe ps (top :: rest) (rin ps top rest)) hd (s2.trans s3)
      · obtain ⟨jj, jl, hl3⟩ := po
        refine ⟨t, _, rfl, SqT.of et, rfl, _, _, rfl, _, _, rfl, rfl, ?_⟩
        have ef3 := s3 _ _ ef2
        refine ⟨_, rfl, .inl ⟨rfl, _, SqL.of ef3⟩, _, rfl, _, _, _, rfl, rfl, ef3, szlt (by omega), ?_⟩
        have t3 : TupLe H3 (upd H3 f (.lst (fv ++ [v]))) := (TupLe.refl _).list ef3
        have pr := pn.runs
        refine ⟨j2, ps ++ [p], x3, some v, by omega, by omega, jl, rfl, ⟨_, upd_same, P2.app (Paired.tl PlR.st ((TupLe.same s3).trans t3) pf) (P2.one (PlR.st _ _ _ _ t3 hv))⟩, Rs.Same.mut (s2.trans s3) hf0, fun top rest rd => ?_, ?_, ?_, ?_, ?_⟩
        · rw [hlw top rest rd, hl3 ps (top :: rest) (rin ps top rest)]
        · intro q hq
          rcases List.mem_append.mp hq with z | z
          · exact hps q z
          · rw [List.mem_singleton.mp z]
            exact ⟨Nat.le_trans pn.dep cm, pn.slim⟩
        · rw [List.length_append, List.length_singleton]
          omega
        · rw [runsL_one, List.length_append]
          omega
        · intro r hr
          rw [runsL_one] at hr
          rcases List.mem_append.mp hr with z | z
          · exact hra r z
          · exact pn.all r z
    refine ⟨_, rfl, _, rfl, lenL hl rfl ⟨_, _, rfl, rfl, _, rfl, ?_⟩⟩
    by_cases hil : i < ws.length
    · rw [decide_eq_true (show ((i : Nat) : Int) < (((ws.map V.str).length : Nat) : Int) by rw [lm]; omega)]
      have hx : (ws.map V.str)[i]? = some (.str ws[i]) := by rw [List.getElem?_map, List.getElem?_eq_getElem hil]; rfl
      have hdi : ws.drop i = ws[i] :: ws.drop (i + 1) := List.drop_eq_getElem_cons hil
      refine ⟨_, rfl, _, rfl, ixL hl (j := i) rfl hx ?_⟩
      refine lw1 ws[i] (hws _ (List.getElem_mem hil)) (fun _ => hil) (fun top rest rd hn ho => ?_) (fun n hn => ⟨hil, fun top rest rd => ?_⟩) (fun e => by rw [hdi, e]) _ _ _
      · rw [hdi]
        refine lw_bad ho (fun z => ?_) hn
        rw [rd.2 (by rw [List.getElem?_eq_getElem hil, z])]
        rfl
      · rw [hdi]
        exact lw_num rd.1 (num_odd hn).1 (num_odd hn).2 hn
    · rw [decide_eq_false (show ¬ ((i : Nat) : Int) < (((ws.map V.str).length : Nat) : Int) by rw [lm]; omega)]
      have hd0 : ws.drop i = [] := List.drop_of_length_le (by omega)
      refine lw1 "" (by decide) (fun z => absurd z (by decide +kernel)) (fun top rest rd hn ho => ?_) (fun n hn => ?_) (fun e => absurd e (by decide +kernel)) _ _ _
      · rw [hd0, lw_nil]
        have r1 := rd.1
        by_cases h : rest.isEmpty = true
        · rw [if_pos h]
          rw [h] at r1
          cases top with
          | nil => rfl
          | cons a b => simp at r1
        · rw [if_neg h]
      · rw [num_close.2.2] at hn
        cases hn
end Rs

namespace Rs
open PySem PySem.Spec PyProof.Rows L2
open LamX
abbrev N_costX : List Str := ["lengths", "ways", "plan"]
abbrev P_costX : List Str := ["lengths", "ways", "plan"]
def PlanOk (w n : Nat) (pl : Pl) : Prop := pl.fits w = true ∧ pl.runs.Perm (rng 0 n)
def sp_costX (K : PySem.W.Frag) : Sp := fun vs H Q E => match vs with
  | [lv, wv, pv] => ∃ (l : Addr) (ls : List Int) (w : Nat) (pl : Pl), lv = .ref l ∧ H l = some (.lst (ls.map V.int)) ∧ GoodLens ls ∧ wv = .int (w : Int) ∧ 2 ≤ w ∧ w ≤ 6 ∧ PlR H pv pl ∧ pl.depth < 42 ∧ pl.slim ∧ pl.runs.length ≤ 1000 ∧
    (PlanOk w ls.length pl → ∀ H', Same H H' → Q (.int (pl.cost ls)) H') ∧ (¬ PlanOk w ls.length pl → ∀ H', Same H H' → E (.ref (He.ga K "BadPlan")) none H')
  | _ => False
def t_costX (K : PySem.W.Frag) (E : XK) : TS := (tSeq (tDrop (tCall (sp_need_lengths K) [] E (tCons (tVar 0) tNil)))
  (tSeq (tDrop (tCall (sp_need_ways K) [] E (tCons (tVar 1) tNil)))
   (tSeq (tIfS (tOr (tTest (tOp (rNeD K) (tCB1 (rSortedI K) (tCall (sp_runs_in K) [] E (tCons (tVar 2) tNil))) (tLstRg (tRg1 (tCB1 (xLen K) (tVar 0)))))) (tNot (tB (tCall (sp_are_merges K) [] E (tCons (tVar 2) (tCons (tVar 1) tNil)))))) (tRaise E (.ref (He.ga K "BadPlan"))) tNext)
    (tRet (tCall (sp_moved K) [] E (tCons (tVar 0) (tCons (tVar 2) tNil)))))))
theorem eqv_nums : ∀ a b : List Int, PyData.eqvAll (a.map PyData.int) (b.map PyData.int) = decide (a = b)
  | [], [] => by simp [PyData.eqvAll]
  | [], _ :: _ => by simp [PyData.eqvAll]
  | _ :: _, [] => by simp [PyData.eqvAll]
  | x :: a, y :: b => by
    rw [List.map_cons, List.map_cons]
    simp only [PyData.eqvAll]
    rw [eqv_nums a b]
    have e : PyData.eqv (.int x) (.int y) = decide (x = y) := by
      simp only [PyData.eqv]
      by_cases h : x = y <;> simp [h]
    rw [e]
    by_cases h : x = y <;> by_cases g : a = b <;> simp [h, g]
theorem eqv_numL (a b : List Int) : PyData.eqv (.list (a.map PyData.int)) (.list (b.map PyData.int)) = decide (a = b) := by
  rw [← eqv_nums]
  simp only [PyData.eqv]
theorem pure_costX {K : PySem.W.Frag} : ∀ vs H Q E, sp_costX K vs H Q E → t_costX K E { nx := fun _ H' => Q .non H', rt := Q } (start N_costX vs) H := by
  intro vs H Q E hyp
  match vs, hyp with
  | [lv, wv, pv], hyp =>
    obtain ⟨l, ls, w, pl, rfl, hl, g, rfl, w2, w6, hp, dp, slim, few, kg, kb⟩ := hyp
    have g1 := g.pos
    have g4 := g.le
    refine ⟨_, rfl, l, ls, rfl, hl, g, fun H1 s1 => ?_⟩
    refine ⟨_, rfl, _, rfl, by omega, by omega, fun H2 s2 => ?_⟩
    have s02 := s1.trans s2
    refine ⟨_, rfl, pl, PlR.st _ _ _ _ (TupLe.same s02) hp, by omega, by omega, fun lr H3 hlr er s3 => ?_⟩
    have s03 := s02.trans s3
    refine ⟨lr, _, rfl, SqL.of er, fun ns' p' pm' up' hp' => ?_⟩
    have ll := pm'.length_eq
    generalize gX : upd _ p' _ = H4
    have s4 := newS hp' gX
    have ep := newE gX
    clear gX
    have s04 := s03.trans s4
    refine ⟨_, rfl, lenL (s04 _ _ hl) rfl ⟨_, rfl, RgOk.of_le (Int.le_refl _) (by rw [List.length_map]; omega) (by decide) (by rw [List.length_map]; omega), fun q hq => ?_⟩⟩
    have eq : rgV 0 (((ls.map V.int).length : Nat) : Int) = (rng 0 ls.length).map V.int := by
      unfold rgV rng
      rw [List.length_map, List.map_map]
      rfl
    rw [eq]
    generalize gX : upd _ q _ = H5
    have s5 := newS hq gX
    have eqq := newE gX
    clear gX
    have ok := ints_ok (ns := rng 0 ls.length) (by rw [rng_len]; omega)
    have ok2 := ints_ok (ns := ns') (by omega)
    refine ⟨_, _, ints_dp (s5 _ _ ep), ints_dp eqq, ok2.shaped (by decide), ok.shaped (by decide), _, rfl, ?_⟩
    rw [eqv_numL]
    have s05 := s04.trans s5
    have hp5 := PlR.st _ _ _ _ (TupLe.same s05) hp
    by_cases c : ns' = rng 0 ls.length
    rotate_left
    · rw [decide_eq_false c]
      refine kb (fun z => c (int_sorted (pm'.trans z.2) up' (rng_up _))) H5 s05
    rw [decide_eq_true c]
    have pm : pl.runs.Perm (rng 0 ls.length) := by rw [← c]; exact pm'.symm
    have rl := pm.length_eq
    rw [rng_len] at rl
    refine ⟨_, rfl, _, rfl, pl, w, hp5, by omega, slim, rfl, fun H6 s6 => ⟨_, rfl, ?_⟩⟩
    have s06 := s05.trans s6
    cases fit : pl.fits w with
    | false => exact kb (fun z => by have := z.1; rw [fit] at this; cases this) H6 s06
    | true =>
      refine ⟨_, rfl, _, rfl, l, ls, pl, rfl, s06 _ _ hl, PlR.st _ _ _ _ (TupLe.same s6) hp5, by omega, by omega, slim, by omega, fun r hr => rng_in (pm.mem_iff.mp hr), fun H7 s7 => kg ⟨fit, pm⟩ H7 (s06.trans s7)⟩
theorem imp_cost {K : PySem.W.Frag} : ∀ vs H Q E, sp_cost K vs H Q E → sp_costX K vs H Q E := fun vs H Q E h => by
  match vs, h with
  | [lv, wv, pv], ⟨l, ls, w, pl, a, b, g, c, w2, w6, hp, fit, pm, k⟩ =>
    have rl := pm.length_eq
    rw [rng_len] at rl
    have dp := Pl.deep pl fit
    have g4 := g.le
    exact ⟨l, ls, w, pl, a, b, g, c, w2, w6, hp, by omega, Pl.slim_fits (by omega) pl fit, by omega, fun _ H' s => k H' s, fun z => (z ⟨fit, pm⟩).elim⟩
abbrev N_read_planX : List Str := ["lengths", "ways", "text", "words", "plan", "place"]
abbrev P_read_planX : List Str := ["lengths", "ways", "text"]
open _root_.TL
def wordsOf (x : Str) : List Str := if x = ("" : Str) then [] else Txt.split x (" " : Str)
theorem cnt_sum : ∀ ws : List Str, cntO ws ≤ (ws.map opens).sum
  | [] => Nat.le_refl _
  | w :: ws => by
    have ih := cnt_sum ws
    unfold cntO at ih ⊢
    rw [List.map_cons, List.sum_cons]
    by_cases c : w = ("(" : Str)
    · rw [List.countP_cons_of_pos (by simp [c])]
      have : opens ("(" : Str) = 1 := by decide +kernel
      rw [c, this]
      omega
    · rw [List.countP_cons_of_neg (by simp [c])]
      omega
theorem words_cnt (x : Str) : cntO (wordsOf x) ≤ opens x := by
  unfold wordsOf
  split
  · exact Nat.zero_le _
  · exact Nat.le_trans (cnt_sum _) (split_cnt sep_blank)
theorem wordsOf_few (x : Str) : (wordsOf x).length ≤ x.length + 1 := by
  unfold wordsOf
  split
  · exact Nat.zero_le _
  · exact split_few sep_blank
theorem wordsOf_part {x w : Str} (h : w ∈ wordsOf x) : w.length ≤ x.length := by
  unfold wordsOf at h
  split at h
  · simp at h
  · exact split_part sep_blank h
def sp_read_planX (K : PySem.W.Frag) : Sp := fun vs H Q E => match vs with
  | [lv, wv, tv] => ∃ (l : Addr) (ls : List Int) (w : Nat) (x : Str), lv = .ref l ∧ H l = some (.lst (ls.map V.int)) ∧ GoodLens ls ∧ wv = .int (w : Int) ∧ 2 ≤ w ∧ w ≤ 6 ∧ tv = .str x ∧ x.length ≤ 900 ∧ opens x ≤ 40 ∧
    (∀ n, lw [] [] 0 (wordsOf x) = .err n → ∀ dd H1, H1 dd = none → Same H H1 → E (.ref (He.ga K "BadText")) (some dd) (upd H1 dd (.xd [(("place" : Str), .int (n : Int))]))) ∧
    ∀ p, lw [] [] 0 (wordsOf x) = .ok p → p.depth ≤ 40 → p.slim → (PlanOk w ls.length p → ∀ v H', PlR H' v p → Same H H' → Q v H') ∧ (¬ PlanOk w ls.length p → ∀ H', Same H H' → E (.ref (He.ga K "BadPlan")) none H')
  | _ => False
def t_read_planX (K : PySem.W.Frag) (E : XK) : TS := (tSeq (tDrop (tCall (sp_need_lengths K) [] E (tCons (tVar 0) tNil)))
  (tSeq (tDrop (tCall (sp_need_ways K) [] E (tCons (tVar 1) tNil)))
   (tSeq (tAsg (tIf (tTest (tOpC rNe (tVar 2) (.str ""))) (tM1 xSplit (tVar 2) (tC (.str " "))) (tLst tNil)) (gName 3))
    (tSeq (tAsg (tCall (sp_plan_fromX K) [] E (tCons (tVar 3) (tConsC (.int 0) tNil))) (gTup K 2 (gCons (gName 4) (gCons (gName 5) gNil))))
     (tSeq (tIfS (tTest (tOp xLt (tVar 5) (tCB1 (xLen K) (tVar 3)))) (tRaiseX K "BadText" "place" E (tCons (tVar 5) tNil)) tNext)
      (tSeq (tDrop (tCall (sp_costX K) [] E (tCons (tVar 0) (tCons (tVar 1) (tCons (tVar 4) tNil)))))
       (tRet (tVar 4))))))))
theorem pure_read_planX {K : PySem.W.Frag} : ∀ vs H Q E, sp_read_planX K vs H Q E → t_read_planX K E { nx := fun _ H' => Q .non H', rt := Q } (start N_read_planX vs) H := by
  intro vs H Q E hyp
  match vs, hyp with
  | [lv, wv, tv], hyp =>
    obtain ⟨l, ls, w, x, rfl, hl, g, rfl, w2, w6, rfl, xl, op, ke, kg⟩ := hyp
    have wc := words_cnt x
    have wf := wordsOf_few x
    have wp := fun w h => wordsOf_part (x := x) (w := w) h
    refine ⟨_, rfl, l, ls, rfl, hl, g, fun H1 s1 => ?_⟩
    refine ⟨_, rfl, _, rfl, by omega, by omega, fun H2 s2 => ?_⟩
    have s02 := s1.trans s2
    have main : ∀ (lw_ : Addr) (H3 : Hp), H3 lw_ = some (.lst ((wordsOf x).map V.str)) → Same H2 H3 → (tSeq (tAsg (tCall (sp_plan_fromX K) [] E (tCons (tVar 3) (tConsC (.int 0) tNil))) (gTup K 2 (gCons (gName 4) (gCons (gName 5) gNil))))
     (tSeq (tIfS (tTest (tOp xLt (tVar 5) (tCB1 (xLen K) (tVar 3)))) (tRaiseX K "BadText" "place" E (tCons (tVar 5) tNil)) tNext)
      (tSeq (tDrop (tCall (sp_costX K) [] E (tCons (tVar 0) (tCons (tVar 1) (tCons (tVar 4) tNil)))))
       (tRet (tVar 4)))) : TS) { nx := fun _ H' => Q .non H', rt := Q } [some (.ref l), some (.int (w : Int)), some (.str x), some (.ref lw_), none, none] H3 := fun lw_ H3 el s3 => by
      have s03 := s02.trans s3
      refine ⟨_, rfl, lw_, wordsOf x, 0, rfl, el, by omega, fun w h => by have := wp w h; omega, rfl, Nat.zero_le _, by rw [List.drop_zero]; omega, fun n dd H4 pe hd s4 => ?_, fun p j t v H4 po pn ht et hv s4 => ?_⟩
      · refine ke n ?_ dd H4 hd (s03.trans s4)
        have := pe [] [] ⟨rfl, fun _ => rfl⟩
        rwa [List.drop_zero] at this
      obtain ⟨_, jl, h0⟩ := po
      have h0 := h0 [] [] ⟨rfl, fun _ => rfl⟩
      rw [List.drop_zero] at h0 pn
      have s04 := s03.trans s4
      refine ⟨t, _, rfl, SqT.of et, rfl, _, _, rfl, _, _, rfl, rfl, ?_⟩
      refine ⟨_, rfl, _, rfl, lenL (s4 _ _ el) rfl ⟨_, _, rfl, rfl, _, rfl, ?_⟩⟩
      rw [List.length_map]
      by_cases c : j < (wordsOf x).length
      · rw [decide_eq_true (show ((j : Nat) : Int) < (((wordsOf x).length : Nat) : Int) by omega)]
        refine ⟨_, rfl, _, rfl, fun dd hd => ke j ?_ dd H4 hd s04⟩
        rw [h0, List.drop_eq_getElem_cons c, lw]
        exact if_pos rfl
      · rw [decide_eq_false (show ¬ ((j : Nat) : Int) < (((wordsOf x).length : Nat) : Int) by omega)]
        have hok : lw [] [] 0 (wordsOf x) = .ok p := by rw [h0, List.drop_of_length_le (by omega)]; rfl
        have pd := pn.dep
        have prn := pn.runs
        obtain ⟨k1, k2⟩ := kg p hok (by omega) pn.slim
        refine ⟨_, rfl, _, rfl, _, rfl, l, ls, w, p, rfl, s04 _ _ hl, g, rfl, w2, w6, hv, by omega, pn.slim, by omega, fun ok H5 s5 => ?_, fun nk H5 s5 => k2 nk H5 (s04.trans s5)⟩
        exact ⟨_, rfl, k1 ok v H5 (PlR.st _ _ _ _ (TupLe.same s5) hv) (s04.trans s5)⟩
    refine ⟨_, rfl, rfl, _, rfl, ?_⟩
    rw [dec_str]
    by_cases c : x = ("" : Str)
    · rw [decide_eq_true c]
      refine ⟨sz0, fun q hq => main q _ ?_ (Rs.Same.new hq)⟩
      rw [upd_same]
      unfold wordsOf
      rw [if_pos c]
      rfl
    · rw [decide_eq_false c]
      refine ⟨_, rfl, ⟨_, rfl⟩, x, " ", rfl, rfl, by decide +kernel, szle (by omega), fun q hq => main q _ ?_ (Rs.Same.new hq)⟩
      rw [upd_same]
      unfold wordsOf
      rw [if_neg c]
end Rs

namespace Rs
open PySem PySem.Spec PyProof.Rows L2
open LamX
abbrev N_law_in : List Str := ["_law_plan_here", "_law_found", "_law_part"]
abbrev P_law_in : List Str := ["_law_plan_here"]
def spr_law_in (K : PySem.W.Frag) (d : Nat) : Sp := fun vs H Q E => match vs with
  | [pv] => ∃ pl, PlR H pv pl ∧ pl.depth < d ∧ pl.runs.length ≤ 1000 ∧ ∀ l H', H l = none → H' l = some (.lst (pl.runs.map V.int)) → Same H H' → Q (.ref l) H'
  | _ => False
abbrev sp_law_in (K : PySem.W.Frag) : Sp := spr_law_in K 42
theorem no_law_in (K : PySem.W.Frag) : ∀ vs H Q E, ¬ spr_law_in K 0 vs H Q E := fun vs H Q E h => by
  unfold spr_law_in at h
  match vs, h with
  | [_], ⟨_, _, h1, _⟩ => omega
theorem len_law_in (K : PySem.W.Frag) : ∀ d vs H Q E, spr_law_in K d vs H Q E → vs.length = 1 := fun d vs H Q E h => by
  unfold spr_law_in at h
  match vs, h with
  | [_], _ => rfl
def t_law_in (K : PySem.W.Frag) (sp : Sp) (E : XK) : TS := (tSeq (tIfS (tNot (tB (tIsi K "tuple" (tVar 0)))) (tRet (tLst (tCons (tVar 0) tNil))) tNext)
  (tSeq (tAsg (tLst tNil) (gName 1))
   (tSeq (tFor (iTup K (tVar 0)) (gName 2) (tDrop (tBM K "list" rExtend (tVar 1) (tCons (tCall sp [] E (tCons (tVar 2) tNil)) tNil))))
    (tRet (tVar 1)))))
theorem pure_law_in {K : PySem.W.Frag} (d : Nat) : ∀ vs H Q E, spr_law_in K (d + 1) vs H Q E → t_law_in K (spr_law_in K d) E { nx := fun _ H' => Q .non H', rt := Q } (start N_law_in vs) H := by
  intro vs H Q E hyp
  unfold spr_law_in at hyp
  match vs, hyp with
  | [pv], hyp =>
    obtain ⟨pl, hp, hd, hl, k⟩ := hyp
    cases pl with
    | leaf n =>
      have e := PlR.unleaf hp
      subst e
      refine ⟨_, rfl, isi_go (t := "int") (b := false) (.base (.int n)) (by decide +kernel) ⟨_, rfl, _, rfl, szle (by show 1 ≤ 100000; decide), fun l hl => ?_⟩⟩
      exact k l _ hl upd_same (Rs.Same.new hl)
    | node ps =>
      obtain ⟨a, tv, rfl, et, pt⟩ := PlR.unnode hp
      rw [Pl.depth] at hd
      rw [Pl.runs] at hl k
      refine ⟨_, rfl, isi_go (t := "tuple") (b := true) (tyT (SqT.of et)) (by decide +kernel) ⟨_, rfl, ?_⟩⟩
      refine ⟨sz0, fun f hf => ?_⟩
      refine ⟨_, rfl, a, rfl, ⟨_, SqT.of ((Rs.Same.new hf) _ _ et)⟩, ?_⟩
      refine for_tup (K := K) (a := a) (xs := tv) (fun j σ H' => ∃ x2, σ = [some (.ref a), some (.ref f), x2] ∧ H' f = some (.lst ((Pl.runsL (ps.take j)).map V.int)) ∧ Same H H') ⟨none, rfl, upd_same, Rs.Same.new hf⟩ ?_ ?_ ?_
      · rintro j σ H' _ ⟨_, _, _, s⟩
        exact SqT.of (s _ _ et)
      · rintro j v σ H' hj ⟨x2, rfl, ef, s⟩
        obtain ⟨p, hp, hpv⟩ := P2.get pt hj
        have dl := Pl.depthL_le (List.mem_of_getElem? hp)
        have b1 := runsL_take ps (j + 1)
        rw [runsL_snoc hp, List.length_append] at b1
        refine ⟨_, rfl, .inl ⟨rfl, _, SqL.of ef⟩, _, rfl, p, PlR.st _ _ _ _ (TupLe.same s) hpv, by omega, by omega, fun l H2 hl2 el s2 => ?_⟩
        have ef2 := s2 _ _ ef
        refine ⟨f, l, _, _, rfl, rfl, ef2, el, szle (by rw [List.length_map, List.length_map]; omega), _, rfl, ?_, Rs.Same.mut (s.trans s2) hf⟩
        rw [upd_same, runsL_snoc hp, List.map_append]
      · rintro σ H' ⟨x2, rfl, ef, s⟩
        rw [List.take_of_length_le (by rw [pt.length]; exact Nat.le_refl _)] at ef
        exact ⟨_, rfl, k f H' hf ef s⟩
abbrev N_law_fits : List Str := ["_law_plan_here", "_law_ways", "_law_bad", "_law_part"]
abbrev P_law_fits : List Str := ["_law_plan_here", "_law_ways"]
def spr_law_fits (K : PySem.W.Frag) (d : Nat) : Sp := fun vs H Q E => match vs with
  | [pv, wv] => ∃ (pl : Pl) (w : Nat), PlR H pv pl ∧ pl.depth < d ∧ pl.slim ∧ wv = .int (w : Int) ∧ ∀ H', Same H H' → Q (.bl (pl.fits w)) H'
  | _ => False
abbrev sp_law_fits (K : PySem.W.Frag) : Sp := spr_law_fits K 42
theorem no_law_fits (K : PySem.W.Frag) : ∀ vs H Q E, ¬ spr_law_fits K 0 vs H Q E := fun vs H Q E h => by
  unfold spr_law_fits at h
  match vs, h with
  | [_, _], ⟨_, _, _, h1, _⟩ => omega
theorem len_law_fits (K : PySem.W.Frag) : ∀ d vs H Q E, spr_law_fits K d vs H Q E → vs.length = 2 := fun d vs H Q E h => by
  unfold spr_law_fits at h
  match vs, h with
  | [_, _], _ => rfl
def t_law_fits (K : PySem.W.Frag) (sp : Sp) (E : XK) : TS := (tSeq (tIfS (tNot (tB (tIsi K "tuple" (tVar 0)))) (tRet (tC (.bl true))) tNext)
  (tSeq (tAsg (tLc (iTup K (tVar 0)) (gName 3) (tNot (tB (tCall sp [] E0 (tCons (tVar 3) (tCons (tVar 1) tNil))))) (tVar 3) [3]) (gName 2))
   (tRet (tAndV (tChain xLe xLe (tC (.int 2)) (tCB1 (xLen K) (tVar 0)) (tVar 1)) (tOp (xEqE K) (tVar 2) (tLst tNil))))))
theorem pure_law_fits {K : PySem.W.Frag} (d : Nat) : ∀ vs H Q E, spr_law_fits K (d + 1) vs H Q E → t_law_fits K (spr_law_fits K d) E { nx := fun _ H' => Q .non H', rt := Q } (start N_law_fits vs) H := by
  intro vs H Q E hyp
  unfold spr_law_fits at hyp
  match vs, hyp with
  | [pv, wv], hyp =>
    obtain ⟨pl, w, hp, hd, sl, rfl, k⟩ := hyp
    cases pl with
    | leaf n =>
      have e := PlR.unleaf hp
      subst e
      exact ⟨_, rfl, isi_go (t := "int") (b := false) (.base (.int n)) (by decide +kernel) ⟨_, rfl, k H (Same.refl H)⟩⟩
    | node ps =>
      obtain ⟨a, tv, rfl, et, pt⟩ := PlR.unnode hp
      have lt := pt.length
      rw [Pl.depth] at hd
      rw [Pl.slim] at sl
      rw [Pl.fits] at k
      have sls := Pl.slimL_of sl.2
      refine ⟨_, rfl, isi_go (t := "tuple") (b := true) (tyT (SqT.of et)) (by decide +kernel) ⟨_, rfl, ?_⟩⟩
      refine ⟨_, rfl, a, rfl, ⟨_, SqT.of et⟩, fun D hD => ?_⟩
      refine lcm_tup (S := PlR) (fun p : Pl => if (!p.fits w) = true then some p else none) PlR.st et pt hD ?_ (by omega) ?_
      · intro j v x H' hx hj r s skip put
        have dl := Pl.depthL_le (List.mem_of_getElem? hx)
        have r' := PlR.st _ _ _ _ (TupLe.same s) r
        refine ⟨rfl, _, rfl, _, rfl, x, w, r', by omega, sls x (List.mem_of_getElem? hx), rfl, fun H2 s2 => ⟨_, rfl, ?_⟩⟩
        cases hf : x.fits w with
        | true => exact skip H2 s2 (by rw [hf]; rfl)
        | false => exact ⟨_, rfl, put H2 _ _ s2 (by rw [hf]; rfl) (PlR.st _ _ _ _ (TupLe.same s2) r')⟩
      · intro H2 L s
        rw [fm_if (f := fun p => p), List.map_id'] at L
        obtain ⟨dv, ed, pd⟩ := L
        have hE : dv.isEmpty = Pl.fitsL w ps := by
          have l := pd.length
          have : dv.isEmpty = (ps.filter fun p => !p.fits w).isEmpty := by
            cases dv <;> cases hh : (ps.filter fun p => !p.fits w) <;> simp [hh] at l ⊢
          rw [this, filter_nil_all, Pl.fitsL_all]
        refine ⟨_, rfl, lenT ⟨a, rfl, s _ _ et⟩ rfl ⟨_, _, rfl, rfl, _, rfl, ?_⟩⟩
        rw [lt]
        by_cases h2 : (2 : Int) ≤ ((ps.length : Nat) : Int)
        · rw [decide_eq_true h2]
          refine ⟨_, rfl, _, _, rfl, rfl, _, rfl, ?_⟩
          have e2 : decide (2 ≤ ps.length) = true := decide_eq_true (by omega)
          by_cases hw : ((ps.length : Nat) : Int) ≤ (w : Int)
          · rw [decide_eq_true hw]
            have ew : decide (ps.length ≤ w) = true := decide_eq_true (by omega)
            rw [e2, ew, Bool.true_and, Bool.true_and] at k
            refine ⟨_, rfl, sz0, fun q hq => eqE ed hq (b := Pl.fitsL w ps) hE.symm (k _ (s.trans (Rs.Same.new hq)))⟩
          · rw [decide_eq_false hw]
            have ew : decide (ps.length ≤ w) = false := decide_eq_false (by omega)
            rw [e2, ew] at k
            exact k H2 s
        · rw [decide_eq_false h2]
          have e2 : decide (2 ≤ ps.length) = false := decide_eq_false (by omega)
          rw [e2] at k
          exact ⟨_, rfl, k H2 s⟩
end Rs

namespace Rs
open PySem PySem.Spec PyProof.Rows L2
open LamX
abbrev N_law_plan_due : List Str := ["_law_many", "_law_ways", "_law_text", "_law_words", "_law_left", "_law_place", "_law_part", "_law_plan_here", "_law_good"]
abbrev P_law_plan_due : List Str := ["_law_many", "_law_ways", "_law_text"]
open _root_.TL
def PlanTold (w n : Nat) (x : Str) (H0 : Hp) (Q : VK) : Prop :=
    (∀ m, lw [] [] 0 (wordsOf x) = .err m → ∀ t H', H0 t = none → H' t = some (.tup [.str "BadText", .int (m : Int)]) → Same H0 H' → Q (.ref t) H') ∧
    ∀ p, lw [] [] 0 (wordsOf x) = .ok p → (PlanOk w n p → ∀ v H', PlR H' v p → Same H0 H' → Q v H') ∧ (¬ PlanOk w n p → ∀ t H', H0 t = none → H' t = some (.tup [.str "BadPlan", .int 0]) → Same H0 H' → Q (.ref t) H')
def sp_law_plan_due (K : PySem.W.Frag) : Sp := fun vs H Q E => match vs with
  | [mv, wv, tv] => ∃ (n w : Nat) (x : Str), mv = .int (n : Int) ∧ n ≤ 100 ∧ wv = .int (w : Int) ∧ tv = .str x ∧ x.length ≤ 900 ∧ opens x ≤ 40 ∧ PlanTold w n x H Q
  | _ => False
def t_law_plan_due (K : PySem.W.Frag) (E : XK) : TS := (tSeq (tAsg (tIf (tTest (tOpC rNe (tVar 2) (.str ""))) (tM1 xSplit (tVar 2) (tC (.str " "))) (tLst tNil)) (gName 3))
  (tSeq (tAsg (tLst (tCons (tLst tNil) tNil)) (gName 4))
   (tSeq (tFor (iRng1 (tCons (tCB1 (xLen K) (tVar 3)) tNil)) (gName 5) 
      (tSeq (tIfS (tAnd (tTest (tOpC rEq (tCB1 (xLen K) (tVar 4)) (.int 1))) (tTest (tOp (xNeE K) (tOpC (rIxL K) (tVar 4) (.int 0)) (tLst tNil)))) (tRet (tTup (tConsC (.str "BadText") (tCons (tVar 5) tNil)))) tNext)
      (tIfS (tTest (tOpC rEq (tOp (rIxL K) (tVar 3) (tVar 5)) (.str "("))) (tDrop (tBM K "list" rAppend (tVar 4) (tCons (tLst tNil) tNil))) 
         (tIfS (tAnd (tTest (tOpC rEq (tOp (rIxL K) (tVar 3) (tVar 5)) (.str ")"))) (tAnd (tTest (tOpC xGt (tCB1 (xLen K) (tVar 4)) (.int 1))) (tTest (tOp (xNeE K) (tOpC (rIxL K) (tVar 4) (.int (-1))) (tLst tNil))))) 
           (tSeq (tAsg (tCB1 (xTuple K) (tBM0 K "list" rPop (tVar 4))) (gName 6))
           (tDrop (tBM K "list" rAppend (tOpC (rIxL K) (tVar 4) (.int (-1))) (tCons (tVar 6) tNil)))) 
           (tIfS (tTest (tOpC rNotN (tCall (sp_law_number K) [] E (tCons (tOp (rIxL K) (tVar 3) (tVar 5)) tNil)) .non)) (tDrop (tBM K "list" rAppend (tOpC (rIxL K) (tVar 4) (.int (-1))) (tCons (tCall (sp_law_number K) [] E (tCons (tOp (rIxL K) (tVar 3) (tVar 5)) tNil)) tNil))) (tRet (tTup (tConsC (.str "BadText") (tCons (tVar 5) tNil)))))))))
    (tSeq (tIfS (tOr (tTest (tOpC xGt (tCB1 (xLen K) (tVar 4)) (.int 1))) (tTest (tOp (xEqE K) (tOpC (rIxL K) (tVar 4) (.int 0)) (tLst tNil)))) (tRet (tTup (tConsC (.str "BadText") (tCons (tCB1 (xLen K) (tVar 3)) tNil)))) tNext)
     (tSeq (tAsg (tOpC (rIxL K) (tOpC (rIxL K) (tVar 4) (.int 0)) (.int 0)) (gName 7))
      (tSeq (tAsg (tAndV (tOp (rEqD K) (tCB1 (rSortedI K) (tCall (sp_law_in K) [] E (tCons (tVar 7) tNil))) (tLstRg (tRg1 (tVar 0)))) (tCall (sp_law_fits K) [] E (tCons (tVar 7) (tCons (tVar 1) tNil)))) (gName 8))
       (tRet (tIf (tB (tVar 8)) (tVar 7) (tTup (tConsC (.str "BadPlan") (tConsC (.int 0) tNil)))))))))))
theorem runsL_sub {ps : List Pl} {p : Pl} (h : p ∈ ps) : p.runs.length ≤ (Pl.runsL ps).length := (Pl.runs_sub h).length_le
theorem lw_facts {p : Pl} : ∀ (ws : List Str) (k : Nat) (top : List Pl) (rest : List (List Pl)) (c n : Nat), (∀ ps ∈ top :: rest, ps.length ≤ n ∧ ∀ p ∈ ps, p.depth + rest.length ≤ c ∧ p.slim) → rest.length ≤ c → n + ws.length ≤ 1000 → ((top :: rest).map fun ps => (Pl.runsL ps).length).sum ≤ n →
    lw top rest k ws = .ok p → p.depth ≤ c + cntO ws ∧ p.slim ∧ p.runs.length ≤ n + ws.length
  | [], k, top, rest, c, n, h, hc, hn, hr, e => by
    rw [lw_nil] at e
    by_cases z : rest.isEmpty = true
    · rw [if_pos z] at e
      cases top with
      | nil => cases e
      | cons q r =>
        cases e
        obtain ⟨_, h2⟩ := h (p :: r) (by simp)
        obtain ⟨h3, h4⟩ := h2 p (by simp)
        have := runsL_sub (ps := p :: r) (p := p) (by simp)
        rw [List.map_cons, List.sum_cons] at hr
        exact ⟨by omega, h4, by omega⟩
    · rw [if_neg z] at e
      cases e
  | w :: r, k, top, rest, c, n, h, hc, hn, hr, e => by
    rw [List.length_cons] at hn ⊢
    have co : cntO (w :: r) = cntO r + (if w = ("(" : Str) then 1 else 0) := by
      unfold cntO
      by_cases z : w = ("(" : Str)
      · rw [List.countP_cons_of_pos (by simp [z]), if_pos z]
      · rw [List.countP_cons_of_neg (by simp [z]), if_neg z]; rfl
    rw [lw] at e
    by_cases z1 : (rest.isEmpty && !top.isEmpty) = true
    · rw [if_pos z1] at e; cases e
    rw [if_neg z1] at e
    by_cases z2 : w = ("(" : Str)
    · rw [if_pos z2] at e
      rw [if_pos z2] at co
      have := lw_facts r (k + 1) [] (top :: rest) (c + 1) n (fun ps hps => by
        rcases List.mem_cons.mp hps with e1 | h1
        · rw [e1]; exact ⟨Nat.zero_le _, fun q hq => by simp at hq⟩
        · obtain ⟨a, b⟩ := h ps h1
          exact ⟨a, fun q hq => ⟨by have := (b q hq).1; rw [List.length_cons]; omega, (b q hq).2⟩⟩) (by rw [List.length_cons]; omega) (by omega) (by rw [List.map_cons, List.sum_cons]; simp only [Pl.runsL, List.length_nil]; omega) e
      exact ⟨by omega, this.2.1, by omega⟩
    rw [if_neg z2] at e
    rw [if_neg z2] at co
    by_cases z3 : w = (")" : Str) ∧ (!rest.isEmpty && !top.isEmpty) = true
    · rw [if_pos z3] at e
      cases rest with
      | nil => exact absurd z3.2 (by simp)
      | cons t rest =>
        have e : lw (t ++ [.node top]) rest (k + 1) r = .ok p := e
        rw [List.length_cons] at hc
        obtain ⟨ta, tb⟩ := h top (by simp)
        obtain ⟨t1, t2⟩ := h t (by simp)
        rw [List.map_cons, List.map_cons, List.sum_cons, List.sum_cons] at hr
        have := lw_facts r (k + 1) (t ++ [.node top]) rest c (n + 1) (fun ps hps => by
          rcases List.mem_cons.mp hps with e1 | h1
          · rw [e1]
            refine ⟨by rw [List.length_append, List.length_singleton]; omega, fun q hq => ?_⟩
            rcases List.mem_append.mp hq with hq | hq
            · exact ⟨by have := (t2 q hq).1; rw [List.length_cons] at this; omega, (t2 q hq).2⟩
            · rw [List.mem_singleton.mp hq]
              have := depthL_all (c := c - (rest.length + 1)) fun q hq => by have := (tb q hq).1; rw [List.length_cons] at this; omega
              exact ⟨by rw [Pl.depth]; omega, ⟨by omega, slimL_all fun q hq => (tb q hq).2⟩⟩
          · obtain ⟨a, b⟩ := h ps (by simp [h1])
            exact ⟨by omega, fun q hq => ⟨by have := (b q hq).1; rw [List.length_cons] at this; omega, (b q hq).2⟩⟩) (by omega) (by omega) (by
              rw [List.map_cons, List.sum_cons, runsL_one, List.length_append, Pl.runs]
              omega) e
        exact ⟨by omega, this.2.1, by omega⟩
    · rw [if_neg z3] at e
      cases hn2 : numOf w with
      | none => rw [hn2] at e; cases e
      | some m =>
        rw [hn2] at e
        have e : lw (top ++ [.leaf m]) rest (k + 1) r = .ok p := e
        obtain ⟨ta, tb⟩ := h top (by simp)
        rw [List.map_cons, List.sum_cons] at hr
        have := lw_facts r (k + 1) (top ++ [.leaf m]) rest c (n + 1) (fun ps hps => by
          rcases List.mem_cons.mp hps with e1 | h1
          · rw [e1]
            refine ⟨by rw [List.length_append, List.length_singleton]; omega, fun q hq => ?_⟩
            rcases List.mem_append.mp hq with hq | hq
            · exact tb q hq
            · rw [List.mem_singleton.mp hq]
              exact ⟨by rw [Pl.depth]; omega, trivial⟩
          · obtain ⟨a, b⟩ := h ps (by simp [h1])
            exact ⟨by omega, b⟩) hc (by omega) (by
              rw [List.map_cons, List.sum_cons, runsL_one, List.length_append, Pl.runs, List.length_singleton]
              omega) e
        exact ⟨by omega, this.2.1, by omega⟩
structure Stk (H0 H : Hp) (L : Addr) (as : List Addr) (st : List (List Pl)) : Prop where
  el : H L = some (.lst (as.reverse.map V.ref))
  at_ : Paired (fun a ps => Lst PlR H a ps) as st
  nd : (L :: as).Nodup
  fr : ∀ a ∈ L :: as, H0 a = none
theorem Stk.same {H0 H H' : Hp} {L : Addr} {as : List Addr} {st : List (List Pl)} (h : Stk H0 H L as st) (s : Same H H') : Stk H0 H' L as st := ⟨s _ _ h.el, P2.mono (fun a ps x => x.same PlR.st s) h.at_, h.nd, h.fr⟩
theorem paired_keep {α β : Type} {F G : α → β → Prop} : ∀ {l : List α} {m : List β}, Paired F l m → (∀ a ∈ l, ∀ b, F a b → G a b) → Paired G l m
  | _, _, .nil, _ => .nil
  | _, _, .cons a b, h => .cons (h _ (List.mem_cons_self ..) _ a) (paired_keep b fun x hx => h x (List.mem_cons_of_mem _ hx))
theorem Stk.put {H0 H : Hp} {L a : Addr} {as : List Addr} {top : List Pl} {rest : List (List Pl)} {p : Pl} {v : V} {fv : List V} (h : Stk H0 H L (a :: as) (top :: rest)) (e : H a = some (.lst fv)) (pv : Paired (PlR H) fv top) (hv : PlR H v p) : Stk H0 (upd H a (.lst (fv ++ [v]))) L (a :: as) ((top ++ [p]) :: rest) := by
  have t : TupLe H (upd H a (.lst (fv ++ [v]))) := (TupLe.refl _).list e
  have nd := h.nd
  rw [List.nodup_cons, List.nodup_cons] at nd
  obtain ⟨n1, n2, n3⟩ := nd
  refine ⟨up h.el fun z => n1 (by rw [z]; simp), ?_, h.nd, h.fr⟩
  cases h.at_ with
  | cons x y =>
    refine .cons ⟨_, upd_same, P2.app (Paired.tl PlR.st t pv) (P2.one (PlR.st _ _ _ _ t hv))⟩ (paired_keep y fun b hb ps x => x.keep PlR.st t fun o e2 => up e2 fun z => n2 (by rw [← z]; exact hb))
theorem pure_law_plan_due {K : PySem.W.Frag} : ∀ vs H Q E, sp_law_plan_due K vs H Q E → t_law_plan_due K E { nx := fun _ H' => Q .non H', rt := Q } (start N_law_plan_due vs) H := by
  intro vs H Q E hyp
  match vs, hyp with
  | [mv, wv, tv], hyp =>
    obtain ⟨n, w, x, rfl, n100, rfl, rfl, xl, op, ke, kg⟩ := hyp
    have wc := words_cnt x
    have wf := wordsOf_few x
    have wp := fun w h => wordsOf_part (x := x) (w := w) h
    have facts : ∀ p, lw [] [] 0 (wordsOf x) = .ok p → p.depth ≤ 40 ∧ p.slim ∧ p.runs.length ≤ 1000 := fun p e => by
      have := lw_facts (wordsOf x) 0 [] [] 0 0 (fun ps hps => by
        rw [List.mem_singleton] at hps
        rw [hps]
        exact ⟨Nat.zero_le _, fun q hq => by simp at hq⟩) (Nat.le_refl _) (by omega) (by simp [Pl.runsL]) e
      exact ⟨by omega, this.2.1, by omega⟩
    have bad : ∀ (m : Nat) (H1 : Hp) (D : Ends) (σ : L2.St), lw [] [] 0 (wordsOf x) = .err m → Same H H1 → D.rt = Q → σ[5]? = some (some (.int ((m : Nat) : Int))) → (tRet (tTup (tConsC (.str "BadText") (tCons (tVar 5) tNil)))) D σ H1 := fun m H1 D σ e s hD h5 => by
      refine ⟨_, h5, szle (by show 2 ≤ 100000; decide), fun t ht => ?_⟩
      rw [hD]
      exact ke m e t _ (s.free ht) upd_same (s.trans (Rs.Same.new ht))
    have main : ∀ (lw_ : Addr) (H3 : Hp), H3 lw_ = some (.lst ((wordsOf x).map V.str)) → Same H H3 → ((tSeq (tAsg (tLst (tCons (tLst tNil) tNil)) (gName 4))
   (tSeq (tFor (iRng1 (tCons (tCB1 (xLen K) (tVar 3)) tNil)) (gName 5) 
      (tSeq (tIfS (tAnd (tTest (tOpC rEq (tCB1 (xLen K) (tVar 4)) (.int 1))) (tTest (tOp (xNeE K) (tOpC (rIxL K) (tVar 4) (.int 0)) (tLst tNil)))) (tRet (tTup (tConsC (.str "BadText") (tCons (tVar 5) tNil)))) tNext)
      (tIfS (tTest (tOpC rEq (tOp (rIxL K) (tVar 3) (tVar 5)) (.str "("))) (tDrop (tBM K "list" rAppend (tVar 4) (tCons (tLst tNil) tNil))) 
         (tIfS (tAnd (tTest (tOpC rEq (tOp (rIxL K) (tVar 3) (tVar 5)) (.str ")"))) (tAnd (tTest (tOpC xGt (tCB1 (xLen K) (tVar 4)) (.int 1))) (tTest (tOp (xNeE K) (tOpC (rIxL K) (tVar 4) (.int (-1))) (tLst tNil))))) 
           (tSeq (tAsg (tCB1 (xTuple K) (tBM0 K "list" rPop (tVar 4))) (gName 6))
           (tDrop (tBM K "list" rAppend (tOpC (rIxL K) (tVar 4) (.int (-1))) (tCons (tVar 6) tNil)))) 
           (tIfS (tTest (tOpC rNotN (tCall (sp_law_number K) [] E (tCons (tOp (rIxL K) (tVar 3) (tVar 5)) tNil)) .non)) (tDrop (tBM K "list" rAppend (tOpC (rIxL K) (tVar 4) (.int (-1))) (tCons (tCall (sp_law_number K) [] E (tCons (tOp (rIxL K) (tVar 3) (tVar 5)) tNil)) tNil))) (tRet (tTup (tConsC (.str "BadText") (tCons (tVar 5) tNil)))))))))
    (tSeq (tIfS (tOr (tTest (tOpC xGt (tCB1 (xLen K) (tVar 4)) (.int 1))) (tTest (tOp (xEqE K) (tOpC (rIxL K) (tVar 4) (.int 0)) (tLst tNil)))) (tRet (tTup (tConsC (.str "BadText") (tCons (tCB1 (xLen K) (tVar 3)) tNil)))) tNext)
     (tSeq (tAsg (tOpC (rIxL K) (tOpC (rIxL K) (tVar 4) (.int 0)) (.int 0)) (gName 7))
      (tSeq (tAsg (tAndV (tOp (rEqD K) (tCB1 (rSortedI K) (tCall (sp_law_in K) [] E (tCons (tVar 7) tNil))) (tLstRg (tRg1 (tVar 0)))) (tCall (sp_law_fits K) [] E (tCons (tVar 7) (tCons (tVar 1) tNil)))) (gName 8))
       (tRet (tIf (tB (tVar 8)) (tVar 7) (tTup (tConsC (.str "BadPlan") (tConsC (.int 0) tNil)))))))))) : TS) { nx := fun _ H' => Q .non H', rt := Q } [some (.int (n : Int)), some (.int (w : Int)), some (.str x), some (.ref lw_), none, none, none, none, none] H3 := fun lw_ H3 el s03 => by
      generalize wordsOf x = ws at wc wf wp ke kg facts bad el
      have lm : (ws.map V.str).length = ws.length := List.length_map _
      refine ⟨sz0, fun a ha => ?_⟩
      have ha0 := ha
      generalize gX : upd _ a _ = H4
      have s4 := newS ha gX
      have ea := newE gX
      clear gX
      refine ⟨szle (by show 1 ≤ 100000; decide), fun L hL => ?_⟩
      have hL0 := s4.free hL
      have nLa : L ≠ a := (ne_of_none ea hL).symm
      generalize gX : upd _ L _ = H5
      have s5 := newS hL gX
      have eL := newE gX
      clear gX
      have s35 := s4.trans s5
      refine ⟨_, rfl, lenL (s35 _ _ el) rfl ⟨_, rfl, by omega, by omega, ?_⟩⟩
      refine for_range (lo := 0) (n := (((ws.map V.str).length : Nat) : Int).toNat) (fun k σ H' => ∃ (as : List Addr) (top : List Pl) (rest : List (List Pl)) (x5 x6 : Option V), σ = [some (.int (n : Int)), some (.int (w : Int)), some (.str x), some (.ref lw_), some (.ref L), x5, x6, none, none] ∧ Stk H3 H' L as (top :: rest) ∧ lw [] [] 0 ws = lw top rest k (ws.drop k) ∧ as.length ≤ k + 1 ∧ (∀ ps ∈ top :: rest, ps.length ≤ k) ∧ Same H3 H')
        ⟨[a], [], [], none, none, rfl, ⟨eL, .cons ⟨[], s5 _ _ ea, .nil⟩ .nil, by simp [nLa], fun b hb => by
          simp only [List.mem_cons, List.not_mem_nil, or_false] at hb
          rcases hb with rfl | rfl
          · exact hL0
          · exact ha0⟩, by rw [List.drop_zero], Nat.le_refl _, fun ps hps => by rw [List.mem_singleton.mp hps]; exact Nat.zero_le _, s35⟩ ?_ ?_
      · rintro k σ H6 hk ⟨as, top, rest, x5, x6, rfl, S, hlw, las, lps, s6⟩
        have hk : k < ws.length := by omega
        have hx : (ws.map V.str)[k]? = some (.str ws[k]) := by rw [List.getElem?_map, List.getElem?_eq_getElem hk]; rfl
        have hdk : ws.drop k = ws[k] :: ws.drop (k + 1) := List.drop_eq_getElem_cons hk
        have wkl := wp _ (List.getElem_mem hk)
        generalize ws[k] = wk at hx hdk wkl
        rw [hdk] at hlw
        obtain ⟨a, bs, rfl⟩ : ∃ a bs, as = a :: bs := by
          cases S.at_ with
          | cons _ _ => exact ⟨_, _, rfl⟩
        have lst := S.at_.length
        rw [List.length_cons, List.length_cons] at lst
        have lrev : ((a :: bs).reverse.map V.ref).length = bs.length + 1 := by simp
        have e5 : V.int (0 + (k : Int)) = V.int ((k : Nat) : Int) := by rw [Int.zero_add]
        have e0k : (0 + (k : Int)) = ((k : Nat) : Int) := Int.zero_add _
        -- behind the first test
        have go : ∀ (H7 : Hp), Stk H3 H7 L (a :: bs) (top :: rest) → Same H3 H7 → (rest.isEmpty && !top.isEmpty) = false → (tIfS (tTest (tOpC rEq (tOp (rIxL K) (tVar 3) (tVar 5)) (.str "("))) (tDrop (tBM K "list" rAppend (tVar 4) (tCons (tLst tNil) tNil))) 
         (tIfS (tAnd (tTest (tOpC rEq (tOp (rIxL K) (tVar 3) (tVar 5)) (.str ")"))) (tAnd (tTest (tOpC xGt (tCB1 (xLen K) (tVar 4)) (.int 1))) (tTest (tOp (xNeE K) (tOpC (rIxL K) (tVar 4) (.int (-1))) (tLst tNil))))) 
           (tSeq (tAsg (tCB1 (xTuple K) (tBM0 K "list" rPop (tVar 4))) (gName 6))
           (tDrop (tBM K "list" rAppend (tOpC (rIxL K) (tVar 4) (.int (-1))) (tCons (tVar 6) tNil)))) 
           (tIfS (tTest (tOpC rNotN (tCall (sp_law_number K) [] E (tCons (tOp (rIxL K) (tVar 3) (tVar 5)) tNil)) .non)) (tDrop (tBM K "list" rAppend (tOpC (rIxL K) (tVar 4) (.int (-1))) (tCons (tCall (sp_law_number K) [] E (tCons (tOp (rIxL K) (tVar 3) (tVar 5)) tNil)) tNil))) (tRet (tTup (tConsC (.str "BadText") (tCons (tVar 5) tNil))))))) { nx := fun σ H' => ∃ (as : List Addr) (top : List Pl) (rest : List (List Pl)) (x5 x6 : Option V), σ = [some (.int (n : Int)), some (.int (w : Int)), some (.str x), some (.ref lw_), some (.ref L), x5, x6, none, none] ∧ Stk H3 H' L as (top :: rest) ∧ lw [] [] 0 ws = lw top rest (k + 1) (ws.drop (k + 1)) ∧ as.length ≤ k + 1 + 1 ∧ (∀ ps ∈ top :: rest, ps.length ≤ k + 1) ∧ Same H3 H', rt := Q } [some (.int (n : Int)), some (.int (w : Int)), some (.str x), some (.ref lw_), some (.ref L), some (.int (0 + (k : Int))), x6, none, none] H7 := fun H7 S s7 rd => by
          have el7 := s7 _ _ el
          have el2 : ∀ {H' : Hp}, Stk H3 H' L (a :: bs) (top :: rest) → H' L = some (.lst (bs.reverse.map V.ref ++ [.ref a])) := fun S => by rw [S.el]; simp
          have num : ∀ H8, Stk H3 H8 L (a :: bs) (top :: rest) → Same H3 H8 → wk ≠ ("(" : Str) → (wk = (")" : Str) → (!rest.isEmpty && !top.isEmpty) = false) → (tIfS (tTest (tOpC rNotN (tCall (sp_law_number K) [] E (tCons (tOp (rIxL K) (tVar 3) (tVar 5)) tNil)) .non)) (tDrop (tBM K "list" rAppend (tOpC (rIxL K) (tVar 4) (.int (-1))) (tCons (tCall (sp_law_number K) [] E (tCons (tOp (rIxL K) (tVar 3) (tVar 5)) tNil)) tNil))) (tRet (tTup (tConsC (.str "BadText") (tCons (tVar 5) tNil))))) { nx := fun σ H' => ∃ (as : List Addr) (top : List Pl) (rest : List (List Pl)) (x5 x6 : Option V), σ = [some (.int (n : Int)), some (.int (w : Int)), some (.str x), some (.ref lw_), some (.ref L), x5, x6, none, none] ∧ Stk H3 H' L as (top :: rest) ∧ lw [] [] 0 ws = lw top rest (k + 1) (ws.drop (k + 1)) ∧ as.length ≤ k + 1 + 1 ∧ (∀ ps ∈ top :: rest, ps.length ≤ k + 1) ∧ Same H3 H', rt := Q } [some (.int (n : Int)), some (.int (w : Int)), some (.str x), some (.ref lw_), some (.ref L), some (.int (0 + (k : Int))), x6, none, none] H8 := fun H8 S s8 no ncl => by
            refine ⟨_, rfl, _, rfl, ixL (s8 _ _ el) (j := k) e0k hx ⟨wk, rfl, by omega, fun v H9 hv s9 => ⟨rfl, _, rfl, ?_⟩⟩⟩
            have s39 := s8.trans s9
            cases hn : numOf wk with
            | none =>
              rw [hn] at hv
              have hv : v = .non := hv
              subst hv
              have e1 : (!decide (V.non = V.non)) = false := by rw [decide_eq_true rfl]; rfl
              rw [e1]
              exact bad k H9 _ _ (by rw [hlw]; exact lw_bad no ncl hn) (s03.trans s39) rfl (by rw [← e5]; rfl)
            | some m =>
              rw [hn] at hv
              have hv : v = .int m := hv
              subst hv
              have e1 : (!decide (V.int m = V.non)) = true := by rw [decide_eq_false fun z => by cases z]; rfl
              rw [e1]
              have S9 := S.same s9
              cases id S9.at_ with
              | cons xa _ =>
                obtain ⟨fv, ef, pf⟩ := id xa
                have lf := pf.length
                have lt := (lps top (by simp))
                refine ⟨_, rfl, ixLast (el2 S9) ⟨.inl ⟨rfl, _, SqL.of ef⟩, _, rfl, _, rfl, ixL (s39 _ _ el) (j := k) e0k hx ⟨wk, rfl, by omega, fun v2 HA hv2 sA => ?_⟩⟩⟩
                rw [hn] at hv2
                have hv2 : v2 = .int m := hv2
                subst hv2
                have SA := S9.same sA
                have efA := sA _ _ ef
                have pfA := Paired.tl PlR.st (TupLe.same sA) pf
                refine ⟨_, _, _, rfl, rfl, efA, szlt (by omega), a :: bs, top ++ [.leaf m], rest, _, _, rfl, SA.put efA pfA (show PlR HA (.int m) (.leaf m) from .leaf m), ?_, by omega, ?_, Rs.Same.mut (s39.trans sA) (S.fr a (by simp))⟩
                · rw [hlw]
                  exact lw_num rd (num_odd hn).1 (num_odd hn).2 hn
                · intro ps hps
                  rcases List.mem_cons.mp hps with e1 | h1
                  · rw [e1, List.length_append, List.length_singleton]; omega
                  · have := lps ps (by simp [h1]); omega
          refine ⟨_, rfl, _, rfl, ixL el7 (j := k) e0k hx ⟨rfl, _, rfl, ?_⟩⟩
          rw [dec_str]
          by_cases co : wk = ("(" : Str)
          · rw [decide_eq_true co]
            refine ⟨_, rfl, .inl ⟨rfl, _, SqL.of S.el⟩, sz0, fun q hq => ?_⟩
            have q3 := s7.free hq
            have there : ∀ b ∈ L :: a :: bs, ∃ u, H7 b = some u := fun b hb => by
              rcases List.mem_cons.mp hb with e1 | h1
              · exact ⟨_, by rw [e1]; exact S.el⟩
              · obtain ⟨j, hj⟩ := List.mem_iff_getElem?.mp h1
                obtain ⟨ps, _, fv, e2, _⟩ := P2.get S.at_ hj
                exact ⟨_, e2⟩
            have nq : q ∉ L :: a :: bs := fun z => by
              obtain ⟨u, hu⟩ := there q z
              rw [hq] at hu
              cases hu
            generalize gX : upd _ q _ = H8
            have s8 := newS hq gX
            have eq := newE gX
            clear gX
            have S8 := S.same s8
            have nqL : q ≠ L := fun z => nq (by rw [z]; simp)
            have nd := S.nd
            have t9 : TupLe H8 (upd H8 L (.lst ((a :: bs).reverse.map V.ref ++ [.ref q]))) := (TupLe.refl _).list S8.el
            refine ⟨_, _, _, rfl, rfl, S8.el, szlt (by rw [lrev]; simp at las; omega), q :: a :: bs, [], top :: rest, _, _, rfl, ⟨by rw [upd_same]; simp, .cons ⟨[], up eq nqL, .nil⟩ (paired_keep S8.at_ fun b hb ps xx => xx.keep PlR.st t9 fun o e2 => up e2 fun z => (List.nodup_cons.mp nd).1 (by rw [← z]; exact hb)), ?_, ?_⟩, ?_, ?_, ?_, Rs.Same.mut (s7.trans s8) (S.fr L (by simp))⟩
            · rw [List.nodup_cons] at nd ⊢
              refine ⟨fun z => ?_, List.nodup_cons.mpr ⟨fun z => nq (by simp only [List.mem_cons] at z ⊢; exact .inr z), nd.2⟩⟩
              rcases List.mem_cons.mp z with e1 | h1
              · exact nqL e1.symm
              · exact nd.1 h1
            · intro b hb
              rcases List.mem_cons.mp hb with e1 | h1
              · rw [e1]; exact S.fr L (by simp)
              · rcases List.mem_cons.mp h1 with e1 | h1
                · rw [e1]; exact q3
                · exact S.fr b (by simp only [List.mem_cons] at h1 ⊢; exact .inr h1)
            · rw [hlw, co]
              exact lw_open rd
            · simp only [List.length_cons] at las ⊢; omega
            · intro ps hps
              rcases List.mem_cons.mp hps with e1 | h1
              · rw [e1]; exact Nat.zero_le _
              · have := lps ps h1; omega
          rw [decide_eq_false co]
          refine ⟨_, rfl, _, rfl, ixL el7 (j := k) e0k hx ⟨rfl, _, rfl, ?_⟩⟩
          rw [dec_str]
          by_cases cc : wk = (")" : Str)
          rotate_left
          · rw [decide_eq_false cc]
            exact num H7 S s7 co fun z => absurd z cc
          rw [decide_eq_true cc]
          refine ⟨_, rfl, lenL S.el rfl ⟨_, _, rfl, rfl, _, rfl, ?_⟩⟩
          rw [lrev]
          by_cases cb : bs.length = 0
          · rw [decide_eq_false (show ¬ (1 : Int) < ((bs.length + 1 : Nat) : Int) by omega)]
            refine num H7 S s7 co fun _ => ?_
            have r0 : rest = [] := List.eq_nil_of_length_eq_zero (by omega)
            rw [r0]; rfl
          rw [decide_eq_true (show (1 : Int) < ((bs.length + 1 : Nat) : Int) by omega)]
          cases id S.at_ with
          | cons xa _ =>
            obtain ⟨fv, ef, pf⟩ := id xa
            have lf := pf.length
            refine ⟨_, rfl, ixLast (el2 S) ⟨sz0, fun q hq => neE ef hq (b := !fv.isEmpty) rfl ⟨_, rfl, ?_⟩⟩⟩
            have s8 : Same H7 (upd H7 q (.lst [])) := Rs.Same.new hq
            generalize upd H7 q (.lst []) = H8 at s8 ⊢
            have fe : fv.isEmpty = top.isEmpty := by cases fv <;> cases top <;> simp at lf ⊢
            rw [fe]
            have S8 := S.same s8
            have s38 := s7.trans s8
            cases ht : top.isEmpty with
            | true => exact num H8 S8 s38 co fun _ => by rw [ht]; simp
            | false =>
              obtain ⟨b, bs, rfl⟩ : ∃ b bs', bs = b :: bs' := by
                cases bs with
                | nil => exact absurd rfl cb
                | cons b bs => exact ⟨b, bs, rfl⟩
              obtain ⟨t, rest, rfl⟩ : ∃ t rest', rest = t :: rest' := by
                cases rest with
                | nil => simp at lst
                | cons t rest => exact ⟨t, rest, rfl⟩
              have tne : top ≠ [] := fun z => by rw [z] at ht; cases ht
              have nd := S.nd
              rw [List.nodup_cons, List.nodup_cons] at nd
              obtain ⟨n1, n2, n3⟩ := nd
              have nLb : ∀ y ∈ a :: b :: bs, y ≠ L := fun y hy z => n1 (by rw [← z]; exact hy)
              have eL8 := el2 S8
              have ef8 := s8 _ _ ef
              refine ⟨_, rfl, .inl ⟨rfl, _, SqL.of eL8⟩, L, _, .ref a, rfl, rfl, eL8, by simp, ?_⟩
              · rw [List.dropLast_concat]
                have t9 : TupLe H8 (upd H8 L (.lst ((b :: bs).reverse.map V.ref))) := (TupLe.refl _).list eL8
                have ef9 : upd H8 L (.lst ((b :: bs).reverse.map V.ref)) a = some (.lst fv) := up ef8 (nLb a (by simp))
                have S9 : Stk H3 (upd H8 L (.lst ((b :: bs).reverse.map V.ref))) L (b :: bs) (t :: rest) := by
                  refine ⟨upd_same, ?_, List.nodup_cons.mpr ⟨fun z => n1 (by simp only [List.mem_cons] at z ⊢; exact .inr z), n3⟩, fun y hy => S.fr y (by simp only [List.mem_cons] at hy ⊢; rcases hy with h | h; exact .inl h; exact .inr (.inr h))⟩
                  cases S8.at_ with
                  | cons _ y => exact paired_keep y fun c hc ps xx => xx.keep PlR.st t9 fun o e2 => up e2 (nLb c (by simp only [List.mem_cons] at hc ⊢; exact .inr hc))
                have s39 : Same H3 (upd H8 L (.lst ((b :: bs).reverse.map V.ref))) := Rs.Same.mut s38 (S.fr L (by simp))
                have pf9 := Paired.tl PlR.st ((TupLe.same s8).trans t9) pf
                generalize upd H8 L (.lst ((b :: bs).reverse.map V.ref)) = H9 at ef9 S9 s39 pf9 t9 ⊢
                refine ⟨a, fv, rfl, .inl ⟨SqL.of ef9, fun u hu => ?_⟩⟩
                generalize gX : upd _ u _ = HA
                have sA := newS hu gX
                have eu := newE gX
                clear gX
                have SA := S9.same sA
                have eLA : HA L = some (.lst (bs.reverse.map V.ref ++ [.ref b])) := by rw [SA.el]; simp
                cases id SA.at_ with
                | cons xb _ =>
                  obtain ⟨gv, eb, pb⟩ := id xb
                  have lb := pb.length
                  have lt := lps t (by simp)
                  refine ⟨_, rfl, ixLast eLA ⟨.inl ⟨rfl, _, SqL.of eb⟩, _, rfl, _, _, _, rfl, rfl, eb, szlt (by omega), b :: bs, t ++ [.node top], rest, _, _, rfl, SA.put eb pb (PlR.node eu (Paired.tl PlR.st (TupLe.same sA) pf9)), ?_, ?_, ?_, Rs.Same.mut (s39.trans sA) (S.fr b (by simp))⟩⟩
                  · rw [hlw, cc]
                    exact lw_close tne
                  · simp only [List.length_cons] at las ⊢; omega
                  · intro ps hps
                    rcases List.mem_cons.mp hps with e1 | h1
                    · rw [e1, List.length_append, List.length_singleton]; omega
                    · have := lps ps (by simp [h1]); omega
        refine ⟨_, rfl, lenL S.el rfl ⟨rfl, _, rfl, ?_⟩⟩
        rw [lrev]
        by_cases c1 : bs.length = 0
        · rw [decide_eq_true (show V.int ((bs.length + 1 : Nat) : Int) = V.int 1 by rw [c1]; rfl)]
          obtain rfl : bs = [] := List.eq_nil_of_length_eq_zero c1
          have r0 : rest = [] := List.eq_nil_of_length_eq_zero (by rw [c1] at lst; omega)
          subst r0
          cases hat : S.at_ with
          | cons xa _ =>
            obtain ⟨fv, ef, pf⟩ := id xa
            have lf := pf.length
            refine ⟨_, rfl, ixL S.el (j := 0) (by decide) rfl ⟨sz0, fun q hq => neE ef hq (b := !fv.isEmpty) rfl ⟨_, rfl, ?_⟩⟩⟩
            have s7 : Same H6 (upd H6 q (.lst [])) := Rs.Same.new hq
            generalize upd H6 q (.lst []) = H7 at s7 ⊢
            have fe : fv.isEmpty = top.isEmpty := by cases fv <;> cases top <;> simp at lf ⊢
            rw [fe]
            cases ht : top.isEmpty with
            | true => exact go H7 (S.same s7) (s6.trans s7) (by rw [ht]; rfl)
            | false =>
              refine bad k H7 _ _ ?_ (s03.trans (s6.trans s7)) rfl (by rw [← e5]; rfl)
              rw [hlw, lw, if_pos (by rw [ht]; rfl)]
        · rw [decide_eq_false (show ¬ V.int ((bs.length + 1 : Nat) : Int) = V.int 1 from fun z => c1 (by injection z with z; omega))]
          refine go H6 S s6 ?_
          cases rest with
          | nil =>
            rw [List.length_nil] at lst
            omega
          | cons _ _ => rfl
      · rintro σ H6 ⟨as, top, rest, x5, x6, rfl, S, hlw, las, lps, s6⟩
        rw [List.drop_of_length_le (by omega)] at hlw
        have s06 := s03.trans s6
        have ekk : ((((ws.map V.str).length : Nat) : Int)).toNat = ws.length := by omega
        rw [ekk] at hlw
        have say : ∀ (H7 : Hp) (D : Ends), D.rt = Q → Same H3 H7 → lw [] [] 0 ws = .err ws.length → (tRet (tTup (tConsC (.str "BadText") (tCons (tCB1 (xLen K) (tVar 3)) tNil)))) D [some (.int (n : Int)), some (.int (w : Int)), some (.str x), some (.ref lw_), some (.ref L), x5, x6, none, none] H7 := fun H7 D hD s7 e => by
          refine ⟨_, rfl, lenL (s7 _ _ el) rfl ⟨szle (by show 2 ≤ 100000; decide), fun t ht => ?_⟩⟩
          rw [lm, hD]
          exact ke ws.length e t _ ((s03.trans s7).free ht) upd_same ((s03.trans s7).trans (Rs.Same.new ht))
        obtain ⟨a, bs, rfl⟩ : ∃ a bs, as = a :: bs := by
          cases S.at_ with
          | cons _ _ => exact ⟨_, _, rfl⟩
        have lst := S.at_.length
        rw [List.length_cons, List.length_cons] at lst
        have lrev : ((a :: bs).reverse.map V.ref).length = bs.length + 1 := by simp
        refine ⟨_, rfl, lenL S.el rfl ⟨_, _, rfl, rfl, _, rfl, ?_⟩⟩
        rw [lrev]
        by_cases cb : bs.length = 0
        rotate_left
        · rw [decide_eq_true (show (1 : Int) < ((bs.length + 1 : Nat) : Int) by omega)]
          refine say H6 _ rfl s6 ?_
          rw [hlw, lw_nil, if_neg]
          cases rest with
          | nil =>
            rw [List.length_nil] at lst
            omega
          | cons _ _ => simp
        rw [decide_eq_false (show ¬ (1 : Int) < ((bs.length + 1 : Nat) : Int) by omega)]
        obtain rfl : bs = [] := List.eq_nil_of_length_eq_zero cb
        have r0 : rest = [] := List.eq_nil_of_length_eq_zero (by omega)
        subst r0
        cases id S.at_ with
        | cons xa _ =>
          obtain ⟨fv, ef, pf⟩ := id xa
          have lf := pf.length
          refine ⟨_, rfl, ixL S.el (j := 0) (by decide) rfl ⟨sz0, fun q hq => eqE ef hq (b := fv.isEmpty) rfl ⟨_, rfl, ?_⟩⟩⟩
          have s7 : Same H6 (upd H6 q (.lst [])) := Rs.Same.new hq
          generalize upd H6 q (.lst []) = H7 at s7 ⊢
          have s37 := s6.trans s7
          cases top with
          | nil =>
            have : fv.isEmpty = true := by cases fv <;> simp at lf ⊢
            rw [this]
            exact say H7 _ rfl s37 (by rw [hlw, lw_nil]; rfl)
          | cons p top =>
            obtain ⟨v, fv, rfl⟩ : ∃ v fv', fv = v :: fv' := by
              cases fv with
              | nil => simp at lf
              | cons v fv => exact ⟨v, fv, rfl⟩
            have hok : lw [] [] 0 ws = .ok p := by rw [hlw, lw_nil]; rfl
            obtain ⟨f1, f2, f3⟩ := facts p hok
            obtain ⟨k1, k2⟩ := kg p hok
            have hv : PlR H7 v p := by
              cases pf with
              | cons h _ => exact PlR.st _ _ _ _ (TupLe.same s7) h
            refine ⟨_, rfl, ixL (s7 _ _ S.el) (j := 0) (by decide) rfl (ixL (s7 _ _ ef) (j := 0) (by decide) rfl ?_)⟩
            have fin : ∀ (g : Bool) (H8 : Hp), Same H7 H8 → (g = true ↔ PlanOk w n p) → (tRet (tIf (tB (tVar 8)) (tVar 7) (tTup (tConsC (.str "BadPlan") (tConsC (.int 0) tNil))))) { nx := fun _ H' => Q .non H', rt := Q } [some (.int (n : Int)), some (.int (w : Int)), some (.str x), some (.ref lw_), some (.ref L), x5, x6, some v, some (.bl g)] H8 := fun g H8 s8 hg => by
              have s08 := (s03.trans s37).trans s8
              refine ⟨_, rfl, g, rfl, ?_⟩
              cases g with
              | true => exact ⟨_, rfl, k1 (hg.mp rfl) v H8 (PlR.st _ _ _ _ (TupLe.same s8) hv) s08⟩
              | false => exact ⟨szle (by show 2 ≤ 100000; decide), fun t ht => k2 (fun z => by have := hg.mpr z; cases this) t _ (s08.free ht) upd_same (s08.trans (Rs.Same.new ht))⟩
            refine ⟨_, rfl, p, hv, by omega, f3, fun lr H8 hlr er s8 => ?_⟩
            refine ⟨lr, _, rfl, SqL.of er, fun ns' p' pm' up' hp' => ?_⟩
            have ll := pm'.length_eq
            generalize gX : upd _ p' _ = H9
            have s9 := newS hp' gX
            have ep := newE gX
            clear gX
            refine ⟨_, rfl, _, rfl, RgOk.of_le (Int.le_refl _) (by omega) (by decide) (by omega), fun q2 hq2 => ?_⟩
            have eqr : rgV 0 ((n : Nat) : Int) = (rng 0 n).map V.int := by
              unfold rgV rng
              rw [List.map_map]
              rfl
            rw [eqr]
            generalize gX : upd _ q2 _ = HA
            have sA := newS hq2 gX
            have eqq := newE gX
            clear gX
            have ok := ints_ok (ns := rng 0 n) (by rw [rng_len]; omega)
            have ok2 := ints_ok (ns := ns') (by omega)
            refine ⟨_, _, ints_dp (sA _ _ ep), ints_dp eqq, ok2.shaped (by decide), ok.shaped (by decide), _, rfl, ?_⟩
            rw [eqv_numL]
            have s7A := (s8.trans s9).trans sA
            by_cases c : ns' = rng 0 n
            · rw [decide_eq_true c]
              have pm : p.runs.Perm (rng 0 n) := by rw [← c]; exact pm'.symm
              refine ⟨_, rfl, _, rfl, p, w, PlR.st _ _ _ _ (TupLe.same s7A) hv, by omega, f2, rfl, fun HB sB => fin _ HB (s7A.trans sB) ⟨fun z => ⟨z, pm⟩, fun z => z.1⟩⟩
            · rw [decide_eq_false c]
              exact fin false HA s7A ⟨fun z => (by cases z), fun z => (c (int_sorted (pm'.trans z.2) up' (rng_up _))).elim⟩
    refine ⟨_, rfl, rfl, _, rfl, ?_⟩
    rw [dec_str]
    by_cases c : x = ("" : Str)
    · rw [decide_eq_true c]
      refine ⟨sz0, fun q hq => main q _ ?_ (Rs.Same.new hq)⟩
      rw [upd_same]
      unfold wordsOf
      rw [if_pos c]
      rfl
    · rw [decide_eq_false c]
      refine ⟨_, rfl, ⟨_, rfl⟩, x, " ", rfl, rfl, by decide +kernel, szle (by omega), fun q hq => main q _ ?_ (Rs.Same.new hq)⟩
      rw [upd_same]
      unfold wordsOf
      rw [if_neg c]
end Rs

namespace Rs
open PySem PySem.Spec PyProof.Rows L2
open LamX
abbrev N_law_spoilt : List Str := ["_law_box", "_law_text", "_law_deed", "_law_words", "_law_k", "_law_odd", "_law_some", "_law_place", "_law_signs", "_law_sign"]
abbrev P_law_spoilt : List Str := ["_law_box", "_law_text"]
open _root_.TL
def Calm1 (x : Str) : Prop := ∀ w ∈ Txt.split x (" " : Str), opens w ≤ 1
def sp_law_spoilt (K : PySem.W.Frag) : Sp := fun vs H Q E => match vs with
  | [bv, tv] => ∃ (a l : Addr) (x : Str), bv = .ref a ∧ Box H a l ∧ tv = .str x ∧ x.length ≤ 440 ∧ ∀ y H', y.length ≤ 2 * x.length + 8 → opens y ≤ 2 * opens x + 1 → (Calm1 x → opens y ≤ opens x + 1) → Box H' a l → But [a, l] H H' → Q (.str y) H'
  | _ => False
def t_law_spoilt (K : PySem.W.Frag) (E : XK) : TS := (tSeq (tAsg (tCall (sp_law_take K) [] E (tCons (tVar 0) (tConsC (.int 6) tNil))) (gName 2))
  (tSeq (tAsg (tM1 xSplit (tVar 1) (tC (.str " "))) (gName 3))
   (tSeq (tAsg (tCall (sp_law_take K) [] E (tCons (tVar 0) (tCons (tCB1 (xLen K) (tVar 3)) tNil))) (gName 4))
    (tSeq (tAsg (tLst (tConsC (.str "") (tConsC (.str "(") (tConsC (.str ")") (tConsC (.str "0") (tConsC (.str "1") (tConsC (.str "00") (tConsC (.str "07") (tConsC (.str "99") (tConsC (.str "100") (tConsC (.str "-1") (tConsC (.str "up") (tConsC (.str "down") (tConsC (.str "up,") (tConsC (.str "down,") (tConsC (.str "Up") (tConsC (.str "( )") (tConsC (.str "5") tNil)))))))))))))))))) (gName 5))
     (tSeq (tIfS (tTest (tOpC xLt (tVar 2) (.int 3))) 
        (tSeq (tAsg (tLst (tCons (tLst tNil) (tCons (tLst (tCons (tOp (rIxL K) (tVar 3) (tVar 4)) (tCons (tOp (rIxL K) (tVar 3) (tVar 4)) tNil))) (tCons (tLst (tCons (tOp (rIxL K) (tVar 5) (tCall (sp_law_take K) [] E (tCons (tVar 0) (tConsC (.int 17) tNil)))) tNil)) tNil)))) (gName 6))
        (tRet (tM1 (xJoin K) (tC (.str " ")) (tOp rCat (tOp rCat (tSl (rSlL K) (tVar 3) tNoPart (tPart (tVar 4))) (tOp (rIxL K) (tVar 6) (tVar 2))) (tSl (rSlL K) (tVar 3) (tPart (tOpC xAdd (tVar 4) (.int 1))) tNoPart))))) tNext)
      (tSeq (tAsg (tCall (sp_law_take K) [] E (tCons (tVar 0) (tCons (tOpC xAdd (tCB1 xLenS (tVar 1)) (.int 1)) tNil))) (gName 7))
       (tSeq (tAsg (tC (.str "0123456789 (),abcdefghijklmnopqrstuvwxyz!#$&'*+-./:;<=>?@ABCDEFGHIJKLMNOPQRSTUVWXYZ[]^_`{|}~")) (gName 8))
        (tSeq (tAsg (tOp (rIxL K) (tLst (tCons (tOp rIxS (tVar 8) (tCall (sp_law_take K) [] E (tCons (tVar 0) (tCons (tCB1 xLenS (tVar 8)) tNil)))) (tConsC (.str "") (tCons (tOp rIxS (tVar 8) (tCall (sp_law_take K) [] E (tCons (tVar 0) (tConsC (.int 13) tNil)))) tNil)))) (tOpC xSub (tVar 2) (.int 3))) (gName 9))
         (tRet (tOp xAddS (tOp xAddS (tSl rSlS (tVar 1) tNoPart (tPart (tVar 7))) (tVar 9)) (tSl rSlS (tVar 1) (tPart (tOp xAdd (tVar 7) (tCB1 xInt (tOpC xGt (tVar 2) (.int 3))))) tNoPart)))))))))))
theorem joinL_cnt (s : List Nat) (c : Nat) (h : s.count c = 0) : ∀ xs : List (List Nat), (joinL s xs).count c = (xs.map (List.count c)).sum
  | [] => rfl
  | [p] => by simp [joinL]
  | p :: q :: r => by
    show (p ++ (s ++ joinL s (q :: r))).count c = _
    rw [List.count_append, List.count_append, h, joinL_cnt s c h (q :: r)]
    simp only [List.map_cons, List.sum_cons]
    omega
theorem join_opens (ys : List Str) : opens (Txt.join (" " : Str) ys) = (ys.map opens).sum := by
  unfold opens
  rw [tl_join', joinL_cnt _ _ (by decide +kernel), List.map_map]
  rfl
theorem join_len (ys : List Str) : (Txt.join (" " : Str) ys).length ≤ (ys.map fun w => w.length + 1).sum := by
  rw [str_len, tl_join']
  have h := joinL_len (s := tl (" " : Str)) (ys.map tl)
  have e1 : (tl (" " : Str)).length = 1 := by decide +kernel
  rw [e1, List.length_map, List.map_map] at h
  have e2 : (ys.map fun w => w.length + 1).sum = (ys.map (List.length ∘ tl)).sum + ys.length := by
    clear h
    induction ys with
    | nil => rfl
    | cons y ys ih =>
      rw [List.map_cons, List.sum_cons, ih, List.map_cons, List.sum_cons, List.length_cons]
      show y.length + 1 + _ = (tl y).length + _ + _
      rw [str_len]
      omega
  omega
theorem sum_put {f : Str → Nat} {ws : List Str} {k : Nat} {w : Str} {mid : List Str} (h : ws[k]? = some w) : ((ws.take k ++ mid ++ ws.drop (k + 1)).map f).sum + f w = (ws.map f).sum + (mid.map f).sum := by
  have e : ws = ws.take k ++ (w :: ws.drop (k + 1)) := by rw [← drop_cons h, List.take_append_drop]
  conv => rhs; rw [e]
  simp only [List.map_append, List.sum_append, List.map_cons, List.sum_cons]
  omega
theorem cutS_take {x : Str} {n : Nat} (h : n ≤ x.length) : tl (cutS x none (some (n : Int))) = (tl x).take n := by
  unfold cutS
  rw [tl_mk, HT.sIx_nat, HT.sIx_none, List.drop_zero, Nat.sub_zero, Nat.min_eq_left h]
theorem cutS_drop {x : Str} {n : Nat} : tl (cutS x (some (n : Int)) none) = (tl x).drop n := by
  unfold cutS
  rw [tl_mk, HT.sIx_nat, HT.sIx_none]
  have e : x.length = (tl x).length := str_len x
  have e2 : x.cps.toList = tl x := rfl
  rw [e2, e]
  by_cases c : n ≤ (tl x).length
  · rw [Nat.min_eq_left c, List.take_of_length_le (by rw [List.length_drop]; omega)]
  · rw [Nat.min_eq_right (by omega), List.drop_of_length_le (by omega), List.drop_of_length_le (by omega)]
    simp
theorem one_sign (c : Nat) : opens ⟨#[c]⟩ ≤ 1 ∧ (⟨#[c]⟩ : Str).length = 1 := ⟨by
  show List.count 40 [c] ≤ 1
  exact Nat.le_trans List.count_le_length (by simp), rfl⟩
theorem pure_law_spoilt {K : PySem.W.Frag} : ∀ vs H Q E, sp_law_spoilt K vs H Q E → t_law_spoilt K E { nx := fun _ H' => Q .non H', rt := Q } (start N_law_spoilt vs) H := by
  intro vs H Q E hyp
  match vs, hyp with
  | [bv, tv], hyp =>
    obtain ⟨a, l, x, rfl, B, rfl, xl, k⟩ := hyp
    have hsl := split_len (x := x) sep_blank
    have hsc := split_cnt (x := x) sep_blank
    have hsn := split_ne (x := x) sep_blank
    have hsf := split_few (x := x) sep_blank
    have calm : Calm1 x → ∀ w ∈ Txt.split x (" " : Str), opens w ≤ 1 := fun h => h
    refine ⟨_, rfl, a, l, _, rfl, rfl, by decide, by decide, B, fun d H1 d0 d1 B1 k1 => ?_⟩
    refine ⟨_, rfl, ⟨_, rfl⟩, x, " ", rfl, rfl, by decide +kernel, szle (by omega), fun lw hlw => ?_⟩
    generalize Txt.split x (" " : Str) = ws at hsl hsc hsn hsf calm hlw ⊢
    have wpos : 0 < ws.length := List.length_pos_iff.mpr hsn
    have lm : (ws.map V.str).length = ws.length := List.length_map _
    have nlw := B1.fresh hlw
    generalize gX : upd _ lw _ = H2
    have s2 := newS hlw gX
    have elw := newE gX
    clear gX
    refine ⟨_, rfl, _, rfl, lenL elw rfl ⟨a, l, _, rfl, rfl, by omega, by omega, B1.same s2, fun r H3 r0 r1 B3 k3 => ?_⟩⟩
    obtain ⟨j, rfl⟩ : ∃ j : Nat, r = (j : Int) := ⟨r.toNat, by omega⟩
    have hj : j < ws.length := by omega
    have elw3 := k3 _ _ elw nlw
    have hwj : ws[j]? = some ws[j] := List.getElem?_eq_getElem hj
    have hxj : (ws.map V.str)[j]? = some (.str ws[j]) := by rw [List.getElem?_map, hwj]; rfl
    have mj := List.getElem_mem hj
    have sj : opens ws[j] ≤ (ws.map opens).sum := sum_mem (f := opens) mj
    have sl : ws[j].length + 1 ≤ (ws.map fun w => w.length + 1).sum := sum_mem (f := fun w : Str => w.length + 1) mj
    have cj : Calm1 x → opens ws[j] ≤ 1 := fun h => calm h _ mj
    generalize hwe : ws[j] = wj at hwj hxj sj sl cj
    have k03 := (k1.trans (But.same (S := [a, l]) s2)).trans k3
    refine ⟨szle (by show 17 ≤ 100000; decide), fun od hod => ?_⟩
    have nod := B3.fresh hod
    generalize gX : upd _ od _ = H4
    have s4 := newS hod gX
    have eod := newE gX
    clear gX
    have B4 := B3.same s4
    have elw4 := s4 _ _ elw3
    refine ⟨_, rfl, _, _, rfl, rfl, _, rfl, ?_⟩
    by_cases c3 : d < 3
    · rw [decide_eq_true c3]
      refine ⟨sz0, fun v1 hv1 => ?_⟩
      have f1 := hv1
      generalize gX : upd _ v1 _ = H5
      have s5 := newS hv1 gX
      have e1 := newE gX
      clear gX
      refine ⟨_, rfl, _, rfl, ixL (s5 _ _ elw4) (j := j) rfl hxj ⟨_, rfl, _, rfl, ixL (s5 _ _ elw4) (j := j) rfl hxj ⟨szle (by show 2 ≤ 100000; decide), fun v2 hv2 => ?_⟩⟩⟩
      have f2 := s5.free hv2
      generalize gX : upd _ v2 _ = H6
      have s6 := newS hv2 gX
      have e2 := newE gX
      clear gX
      have s46 := s5.trans s6
      have B6 := B4.same s46
      refine ⟨_, rfl, _, rfl, a, l, _, rfl, rfl, by decide, by decide, B6, fun q H7 q0 q1 B7 k7 => ?_⟩
      have out : ∀ {y : Addr} {vs : List V}, H4 y = none → H6 y = some (.lst vs) → H7 y = some (.lst vs) := fun {y vs} h0 h => k7 _ _ h (B4.fresh h0)
      have eod7 : H7 od = some _ := k7 _ _ (s46 _ _ eod) nod
      obtain ⟨ow, hq, hop, hol⟩ : ∃ ow : Str, ([V.str "", .str "(", .str ")", .str "0", .str "1", .str "00", .str "07", .str "99", .str "100", .str "-1", .str "up", .str "down", .str "up,", .str "down,", .str "Up", .str "( )", .str "5"] : List V)[q.toNat]? = some (.str ow) ∧ opens ow ≤ 1 ∧ ow.length ≤ 5 := by
        have all : ∀ i : Nat, i < 17 → ∃ ow : Str, ([V.str "", .str "(", .str ")", .str "0", .str "1", .str "00", .str "07", .str "99", .str "100", .str "-1", .str "up", .str "down", .str "up,", .str "down,", .str "Up", .str "( )", .str "5"] : List V)[i]? = some (.str ow) ∧ opens ow ≤ 1 ∧ ow.length ≤ 5 := by
          intro i hi
          match i, hi with
          | 0, _ => exact ⟨_, rfl, by decide +kernel, by decide +kernel⟩
          | 1, _ => exact ⟨_, rfl, by decide +kernel, by decide +kernel⟩
          | 2, _ => exact ⟨_, rfl, by decide +kernel, by decide +kernel⟩
          | 3, _ => exact ⟨_, rfl, by decide +kernel, by decide +kernel⟩
          | 4, _ => exact ⟨_, rfl, by decide +kernel, by decide +kernel⟩
          | 5, _ => exact ⟨_, rfl, by decide +kernel, by decide +kernel⟩
          | 6, _ => exact ⟨_, rfl, by decide +kernel, by decide +kernel⟩
          | 7, _ => exact ⟨_, rfl, by decide +kernel, by decide +kernel⟩
          | 8, _ => exact ⟨_, rfl, by decide +kernel, by decide +kernel⟩
          | 9, _ => exact ⟨_, rfl, by decide +kernel, by decide +kernel⟩
          | 10, _ => exact ⟨_, rfl, by decide +kernel, by decide +kernel⟩
          | 11, _ => exact ⟨_, rfl, by decide +kernel, by decide +kernel⟩
          | 12, _ => exact ⟨_, rfl, by decide +kernel, by decide +kernel⟩
          | 13, _ => exact ⟨_, rfl, by decide +kernel, by decide +kernel⟩
          | 14, _ => exact ⟨_, rfl, by decide +kernel, by decide +kernel⟩
          | 15, _ => exact ⟨_, rfl, by decide +kernel, by decide +kernel⟩
          | 16, _ => exact ⟨_, rfl, by decide +kernel, by decide +kernel⟩
          | i + 17, hi => omega
        exact all q.toNat (by omega)
      refine ixL eod7 (j := q.toNat) (by omega) hq ⟨szle (by show 1 ≤ 100000; decide), fun v3 hv3 => ?_⟩
      generalize gX : upd _ v3 _ = H8
      have s8 := newS hv3 gX
      have e3 := newE gX
      clear gX
      refine ⟨szle (by show 3 ≤ 100000; decide), fun sm hsm => ?_⟩
      generalize gX : upd _ sm _ = H9
      have s9 := newS hsm gX
      have esm := newE gX
      clear gX
      have s79 := s8.trans s9
      have elw9 : H9 lw = some (.lst (ws.map V.str)) := s79 _ _ (k7 _ _ (s46 _ _ elw4) nlw)
      obtain ⟨f, mid, hf, ef, mo, ml⟩ : ∃ (f : Addr) (mid : List Str), ([V.ref v1, V.ref v2, V.ref v3] : List V)[d.toNat]? = some (.ref f) ∧ H9 f = some (.lst (mid.map V.str)) ∧ ((mid.map opens).sum ≤ 2 * opens wj ∨ (mid.map opens).sum ≤ 1) ∧ ((mid.map fun w => w.length + 1).sum ≤ 2 * (wj.length + 1) ∨ (mid.map fun w => w.length + 1).sum ≤ 6) := by
        obtain e | e | e : d.toNat = 0 ∨ d.toNat = 1 ∨ d.toNat = 2 := by omega
        · exact ⟨v1, [], by rw [e]; rfl, s79 _ _ (out f1 (s6 _ _ e1)), .inr (by simp), .inr (by simp)⟩
        · exact ⟨v2, [wj, wj], by rw [e]; rfl, s79 _ _ (out f2 e2), .inl (by simp; omega), .inl (by simp; omega)⟩
        · exact ⟨v3, [ow], by rw [e]; rfl, s9 _ _ e3, .inr (by simpa using hop), .inr (by simp; omega)⟩
      have so := sum_put (f := opens) (mid := mid) hwj
      have sle := sum_put (f := fun w => w.length + 1) (mid := mid) hwj
      have midl := sum_count (f := fun w : Str => w.length) mid
      have B9 := B7.same s79
      have k09 := ((k03.trans (But.same (S := [a, l]) (s4.trans s46))).trans k7).trans (But.same (S := [a, l]) s79)
      have mlen : mid.length ≤ 1000 := by
        rcases ml with z | z <;> omega
      refine ⟨⟨_, rfl⟩, _, rfl, _, rfl, _, rfl, lw, ws.map V.str, rfl, SqL.of elw9, fun p1 hp1 => ?_⟩
      rw [cut_to (by omega)]
      generalize gX : upd _ p1 _ = Y1
      have y1 := newS hp1 gX
      have ep1 := newE gX
      clear gX
      refine ⟨_, rfl, _, rfl, ixL (y1 _ _ esm) (j := d.toNat) (by omega) hf ?_⟩
      refine ⟨p1, f, _, _, rfl, rfl, ep1, y1 _ _ ef, szle (by rw [List.length_take, lm, List.length_map]; omega), fun p2 hp2 => ?_⟩
      generalize gX : upd _ p2 _ = Y2
      have y2 := newS hp2 gX
      have ep2 := newE gX
      clear gX
      refine ⟨_, rfl, _, rfl, _, _, rfl, rfl, _, rfl, lw, _, rfl, SqL.of ((y1.trans y2) _ _ elw9), fun p3 hp3 => ?_⟩
      have ecut : cutV (ws.map V.str) (some (((j + 1 : Nat) : Int))) none = (ws.map V.str).drop (j + 1) := cut_from (by omega)
      have ecut2 : cutV (ws.map V.str) (some ((j : Int) + 1)) none = (ws.map V.str).drop (j + 1) := by rw [← ecut]; rfl
      dsimp only
      rw [ecut2]
      generalize gX : upd _ p3 _ = Y3
      have y3 := newS hp3 gX
      have ep3 := newE gX
      clear gX
      refine ⟨p2, p3, _, _, rfl, rfl, y3 _ _ ep2, ep3, szle (by simp only [List.length_append, List.length_take, List.length_drop, List.length_map]; omega), fun p hp => ?_⟩
      generalize gX : upd _ p _ = Y4
      have y4 := newS hp gX
      have ep := newE gX
      clear gX
      have yy := ((y1.trans y2).trans y3).trans y4
      have em : (ws.map V.str).take j ++ mid.map V.str ++ (ws.map V.str).drop (j + 1) = (ws.take j ++ mid ++ ws.drop (j + 1)).map V.str := by simp only [List.map_append, List.map_take, List.map_drop]
      rw [em] at ep
      have jl := join_len (ws.take j ++ mid ++ ws.drop (j + 1))
      have jo := join_opens (ws.take j ++ mid ++ ws.drop (j + 1))
      have ysz : (ws.take j ++ mid ++ ws.drop (j + 1)).length ≤ 2000 := by simp only [List.length_append, List.length_take, List.length_drop]; omega
      have yl : ((ws.take j ++ mid ++ ws.drop (j + 1)).map (·.length)).sum ≤ ((ws.take j ++ mid ++ ws.drop (j + 1)).map fun w => w.length + 1).sum := by
        clear jl jo em ep so sle ysz
        induction (ws.take j ++ mid ++ ws.drop (j + 1)) with
        | nil => simp
        | cons z zs ih => simp only [List.map_cons, List.sum_cons]; omega
      have one : (" " : Str).length = 1 := by decide +kernel
      refine ⟨_, p, ws.take j ++ mid ++ ws.drop (j + 1), rfl, rfl, .inl (SqL.of ep), by rw [one]; rcases ml with z | z <;> omega, k _ _ ?_ ?_ ?_ (B9.same yy) (k09.trans (But.same yy))⟩
      · rcases ml with z | z <;> omega
      · rw [jo]
        rcases mo with z | z <;> omega
      · intro h
        have := cj h
        rw [jo]
        rcases mo with z | z <;> omega
    · rw [decide_eq_false c3]
      refine ⟨_, rfl, _, rfl, x, rfl, szle (by omega), _, _, rfl, rfl, a, l, _, rfl, rfl, by omega, by omega, B4, fun pl H5 p0 p1 B5 k5 => ?_⟩
      obtain ⟨n, rfl⟩ : ∃ n : Nat, pl = (n : Int) := ⟨pl.toNat, by omega⟩
      have sign : ∀ (q : Int), 0 ≤ q → q < 92 → ∃ c, atI ("0123456789 (),abcdefghijklmnopqrstuvwxyz!#$&'*+-./:;<=>?@ABCDEFGHIJKLMNOPQRSTUVWXYZ[]^_`{|}~" : Str).cps.toList q = some c := fun q q0 q1 => by
        obtain ⟨m, rfl⟩ : ∃ m : Nat, q = (m : Int) := ⟨q.toNat, by omega⟩
        have hl : m < ("0123456789 (),abcdefghijklmnopqrstuvwxyz!#$&'*+-./:;<=>?@ABCDEFGHIJKLMNOPQRSTUVWXYZ[]^_`{|}~" : Str).cps.toList.length := by
          have : ("0123456789 (),abcdefghijklmnopqrstuvwxyz!#$&'*+-./:;<=>?@ABCDEFGHIJKLMNOPQRSTUVWXYZ[]^_`{|}~" : Str).cps.toList.length = 92 := by decide +kernel
          omega
        exact ⟨_, atI_nat (List.getElem?_eq_getElem hl)⟩
      have slen : ("0123456789 (),abcdefghijklmnopqrstuvwxyz!#$&'*+-./:;<=>?@ABCDEFGHIJKLMNOPQRSTUVWXYZ[]^_`{|}~" : Str).length = 92 := by decide +kernel
      refine ⟨_, rfl, _, rfl, _, rfl, _, rfl, szle (by rw [slen]; decide), a, l, _, rfl, rfl, by rw [slen]; decide, by rw [slen]; decide, B5, fun q1 H6 q10 q11 B6 k6 => ?_⟩
      rw [slen] at q11
      obtain ⟨c1, hc1⟩ := sign q1 q10 (by omega)
      refine ⟨_, q1, c1, rfl, rfl, szle (by rw [slen]; decide), hc1, ?_⟩
      refine ⟨_, rfl, _, rfl, a, l, _, rfl, rfl, by decide, by decide, B6, fun q2 H7 q20 q21 B7 k7 => ?_⟩
      obtain ⟨c2, hc2⟩ := sign q2 q20 (by omega)
      refine ⟨_, q2, c2, rfl, rfl, szle (by rw [slen]; decide), hc2, szle (by show 3 ≤ 100000; decide), fun sg hsg => ?_⟩
      have nsg := B7.fresh hsg
      generalize gX : upd _ sg _ = H8
      have s8 := newS hsg gX
      have esg := newE gX
      clear gX
      refine ⟨_, rfl, _, _, rfl, rfl, ?_⟩
      obtain ⟨z, hz, zo, zl⟩ : ∃ z : Str, ([V.str ⟨#[c1]⟩, V.str "", V.str ⟨#[c2]⟩] : List V)[(d - 3).toNat]? = some (.str z) ∧ opens z ≤ 1 ∧ z.length ≤ 1 := by
        obtain e | e | e : (d - 3).toNat = 0 ∨ (d - 3).toNat = 1 ∨ (d - 3).toNat = 2 := by omega
        · exact ⟨_, by rw [e]; rfl, (one_sign c1).1, Nat.le_of_eq (one_sign c1).2⟩
        · exact ⟨_, by rw [e]; rfl, by decide +kernel, by decide +kernel⟩
        · exact ⟨_, by rw [e]; rfl, (one_sign c2).1, Nat.le_of_eq (one_sign c2).2⟩
      refine ixL esg (j := (d - 3).toNat) (by show d - 3 = _; omega) hz ?_
      have k08 := (((k03.trans (But.same (S := [a, l]) s4)).trans k5).trans k6).trans (k7.trans (But.same (S := [a, l]) s8))
      have B8 := B7.same s8
      have hn : n ≤ x.length := by omega
      have l1 : (cutS x none (some (n : Int))).length ≤ x.length := cutS_length _ _ _
      have al : ∀ p q : Str, (p ++ q).length = p.length + q.length := fun p q => by rw [str_len, str_len, str_len, tl_append, List.length_append]
      have fin : ∀ m : Nat, n ≤ m → Q (.str (cutS x none (some (n : Int)) ++ z ++ cutS x (some (m : Int)) none)) H8 := fun m nm => by
        have ct := cutS_take hn
        have cd := cutS_drop (x := x) (n := m)
        have lx : x.length = (tl x).length := str_len x
        have l2 : (cutS x none (some (n : Int))).length = n := by rw [str_len, ct, List.length_take]; omega
        have l3 : (cutS x (some (m : Int)) none).length = x.length - m := by rw [str_len, cd, List.length_drop, ← lx]
        have o1 : opens (cutS x none (some (n : Int))) + opens (cutS x (some (m : Int)) none) ≤ opens x := by
          unfold opens
          rw [ct, cd]
          have e : (tl x).count 40 = ((tl x).take n).count 40 + ((tl x).drop n).count 40 := by rw [← List.count_append, List.take_append_drop]
          have s : ((tl x).drop m).count 40 ≤ ((tl x).drop n).count 40 := by
            have e2 : (tl x).drop m = ((tl x).drop n).drop (m - n) := by rw [List.drop_drop]; congr 1; omega
            rw [e2]
            exact (List.drop_sublist _ _).count_le 40
          omega
        refine k _ _ ?_ ?_ ?_ B8 k08
        · rw [al, al, l2, l3]; omega
        · rw [opens_app, opens_app]; omega
        · intro _; rw [opens_app, opens_app]; omega
      refine ⟨_, rfl, _, rfl, _, rfl, x, rfl, szle (by omega), _, rfl, _, _, rfl, rfl, szle (by omega), ?_⟩
      refine ⟨_, rfl, _, rfl, _, rfl, _, _, rfl, rfl, .inr ⟨_, rfl, ?_⟩⟩
      by_cases c : (3 : Int) < d
      · rw [decide_eq_true c]
        refine ⟨_, _, rfl, rfl, _, rfl, x, rfl, szle (by omega), _, _, rfl, rfl, szle ?_, fin (n + 1) (by omega)⟩
        have := cutS_length x (some ((n : Int) + if true = true then 1 else 0)) none
        rw [al]
        omega
      · rw [decide_eq_false c]
        refine ⟨_, _, rfl, rfl, _, rfl, x, rfl, szle (by omega), _, _, rfl, rfl, szle ?_, ?_⟩
        · have := cutS_length x (some ((n : Int) + if false = true then 1 else 0)) none
          rw [al]
          omega
        · have := fin n (Nat.le_refl _)
          rw [if_neg Bool.false_ne_true, Int.add_zero]
          exact this
end Rs

namespace Rs
open PySem PySem.Spec PyProof.Rows L2
open LamX
mutual
def Pl.data : Pl → PyData
  | .leaf n => .int n
  | .node ps => .tuple (Pl.dataL ps)
def Pl.dataL : List Pl → List PyData
  | [] => []
  | p :: ps => p.data :: Pl.dataL ps
end
mutual
theorem Pl.dp {K : PySem.W.Frag} {H : Hp} : ∀ (p : Pl) (v : V), PlAt H v p → Dp K H v p.data
  | .leaf n, _, h => by
    cases h
    rw [Pl.data]
    exact .int n
  | .node ps, _, h => by
    cases h with
    | node e a =>
      rw [Pl.data]
      exact .tup (SqT.of e) (Pl.dpL ps _ a)
theorem Pl.dpL {K : PySem.W.Frag} {H : Hp} : ∀ (ps : List Pl) (vs : List V), PlAll H vs ps → DpAll K H vs (Pl.dataL ps)
  | [], _, h => by
    cases h
    rw [Pl.dataL]
    exact .nil
  | p :: ps, _, h => by
    cases h with
    | cons a b =>
      rw [Pl.dataL]
      exact .cons (Pl.dp p _ a) (Pl.dpL ps _ b)
end
theorem Pl.dataL_map (ps : List Pl) : Pl.dataL ps = ps.map Pl.data := by
  induction ps with
  | nil => rfl
  | cons p ps ih => rw [Pl.dataL, ih, List.map_cons]
theorem Pl.okS : ∀ (n : Nat) (p : Pl), p.depth < n → p.slim → Rs.okA n p.data
  | 0, p, h, _ => by omega
  | n + 1, .leaf x, _, _ => by rw [Pl.data]; trivial
  | n + 1, .node ps, h, f => by
    rw [Pl.data, Pl.dataL_map]
    rw [Pl.depth] at h
    have fl := Pl.slimL_of f.2
    refine ⟨by rw [List.length_map]; have := f.1; omega, fun d hd => ?_⟩
    obtain ⟨p, hp, rfl⟩ := List.mem_map.mp hd
    have := Pl.depthL_le hp
    exact Pl.okS n p (by omega) (fl p hp)
def Told1 (H : Hp) (v : V) (d : PyData) : Prop := (∃ (s : Str) (n : Int) (t : Addr), v = .ref t ∧ H t = some (.tup [.str s, .int n]) ∧ d = .tuple [.str s, .int n]) ∨ (∃ (l : Addr) (o : Ord), v = .ref l ∧ Lst TurnAt H l o ∧ o.length ≤ 2000 ∧ d = .list (o.map turnD)) ∨ ∃ p, PlR H v p ∧ p.depth ≤ 40 ∧ p.slim ∧ d = p.data
theorem Told1.keep {H H' : Hp} {v : V} {d : PyData} (h : Told1 H v d) (t : TupLe H H') (k : ∀ x vs, H x = some (.lst vs) → H' x = some (.lst vs)) : Told1 H' v d := by
  rcases h with ⟨s, n, u, rfl, e, rfl⟩ | ⟨l, o, rfl, ⟨vs, e, p⟩, ol, rfl⟩ | ⟨p, hp, a, b, rfl⟩
  · exact .inl ⟨s, n, u, rfl, t _ _ e, rfl⟩
  · exact .inr (.inl ⟨l, o, rfl, ⟨vs, k _ _ e, Paired.tl TurnAt.st t p⟩, ol, rfl⟩)
  · exact .inr (.inr ⟨p, PlR.st _ _ _ _ t hp, a, b, rfl⟩)
theorem Told1.same {H H' : Hp} {v : V} {d : PyData} (h : Told1 H v d) (s : Same H H') : Told1 H' v d := h.keep (TupLe.same s) fun x vs e => s _ _ e
theorem Told1.dp {K : PySem.W.Frag} {H : Hp} {v : V} {d : PyData} (h : Told1 H v d) : Dp K H v d := by
  rcases h with ⟨s, n, u, rfl, e, rfl⟩ | ⟨l, o, rfl, ⟨vs, e, p⟩, ol, rfl⟩ | ⟨p, hp, a, b, rfl⟩
  · exact .tup (SqT.of e) (.cons (.str _) (.cons (.int _) .nil))
  · exact .lst (SqL.of e) (dpAll (R := TurnAt) (fun v q h => turn_dp h) p)
  · exact Pl.dp p v hp
theorem Told1.ok {H : Hp} {v : V} {d : PyData} (h : Told1 H v d) : Rs.okA 43 d := by
  rcases h with ⟨s, n, u, rfl, e, rfl⟩ | ⟨l, o, rfl, ⟨vs, e, p⟩, ol, rfl⟩ | ⟨p, hp, a, b, rfl⟩
  · exact ⟨by show 2 ≤ 100000; decide, fun d hd => by
      simp only [List.mem_cons, List.not_mem_nil, or_false] at hd
      rcases hd with rfl | rfl <;> exact trivial⟩
  · refine ⟨by rw [List.length_map]; omega, fun d hd => ?_⟩
    obtain ⟨t, _, rfl⟩ := List.mem_map.mp hd
    exact ⟨by show 2 ≤ 100000; decide, fun d hd => by
      simp only [List.mem_cons, List.not_mem_nil, or_false] at hd
      rcases hd with rfl | rfl <;> exact trivial⟩
  · exact Pl.okS 43 p (by omega) b
theorem rErr_place {K : PySem.W.Frag} {x : Str} {H : Hp} {Q : VK} {dd : Addr} {v : V} (E : ErrIs K x) (M : ErrMk K x "place") (hx : x = "BadRows" ∨ x = "BadText") (hr : ¬ x = "BadRuns") (e : H dd = some (.xd [(("place" : Str), v)])) (k : ∀ u H', H u = none → Same H H' → H' u = some (.tup [.str x, v]) → Q (.ref u) H') : rErr K (.ref (He.ga K x)) (some dd) H Q := by
  refine ⟨x, v, rfl, E, ?_, fun u H' hu s e => k u H' hu (fun b o q => s b o q) e⟩
  unfold ErrNo
  rw [if_pos (.inr hx), if_neg hr]
  exact ⟨dd, _, ⟨E.c.hg, E.c.hk, E.c.hs, E.c.hd⟩, M.noF, rfl, e, by simp [List.lookup]⟩
def Told2 (H : Hp) (v : V) (d : PyData) : Prop := (∃ (s : Str) (n : Int) (t : Addr), v = .ref t ∧ H t = some (.tup [.str s, .int n]) ∧ d = .tuple [.str s, .int n]) ∨ ∃ p, PlR H v p ∧ p.depth ≤ 40 ∧ p.slim ∧ d = p.data
theorem Told2.one {H : Hp} {v : V} {d : PyData} (h : Told2 H v d) : Told1 H v d := h.imp id .inr
theorem Told2.tup {H H' : Hp} {v : V} {d : PyData} (h : Told2 H v d) (t : TupLe H H') : Told2 H' v d := by
  rcases h with ⟨s, n, u, rfl, e, rfl⟩ | ⟨p, hp, a, b, rfl⟩
  · exact .inl ⟨s, n, u, rfl, t _ _ e, rfl⟩
  · exact .inr ⟨p, PlR.st _ _ _ _ t hp, a, b, rfl⟩
def OrdIs (ks : List Str) (x : Str) (d : PyData) : Prop := (∀ n, ordL 0 (Txt.split x (", " : Str)) = .inl n → d = .tuple [.str "BadText", .int (n : Int)]) ∧ ∀ o, ordL 0 (Txt.split x (", " : Str)) = .inr o → (GoodOrd ks o → d = .list (o.map turnD)) ∧ (¬ GoodOrd ks o → d = .tuple [.str "BadOrder", .int 0])
def PlanIs (w n : Nat) (x : Str) (d : PyData) : Prop := (∀ m, lw [] [] 0 (wordsOf x) = .err m → d = .tuple [.str "BadText", .int (m : Int)]) ∧ ∀ p, lw [] [] 0 (wordsOf x) = .ok p → (PlanOk w n p → d = p.data) ∧ (¬ PlanOk w n p → d = .tuple [.str "BadPlan", .int 0])
theorem ordL_len : ∀ (ps : List Str) (k : Nat) (o : Ord), ordL k ps = .inr o → o.length ≤ ps.length
  | [], k, o, h => by
    rw [ordL] at h
    cases h
    exact Nat.le_refl _
  | p :: r, k, o, h => by
    rw [ordL] at h
    cases hp : partOf p with
    | none => rw [hp] at h; cases h
    | some t =>
      rw [hp] at h
      dsimp only at h
      cases hr : ordL (k + 1) r with
      | inl n => rw [hr] at h; cases h
      | inr o' =>
        rw [hr] at h
        cases h
        have := ordL_len r (k + 1) o' hr
        simp only [List.length_cons]
        omega
def Lms_k22 : Lams := [(("law", none), (("law" ++ ".<locals>.") ++ "<lambda>" : Str))]
end Rs

namespace Rs
open PySem PySem.Spec PyProof.Rows L2
open LamX
abbrev N_law : List Str := ["_law_script", "_law_box", "_law_odd", "_law_turn", "_law_kinds_here", "_law_order_here", "_law_lengths_here", "_law_ways", "_law_one", "_law_other", "_law_deed", "_law_due", "_law_again", "_law_found"]
abbrev P_law : List Str := ["_law_script"]
open _root_.TL
def sp_law (K : PySem.W.Frag) : Sp := fun vs H Q E => match vs with
  | [s] => ∃ (p : Addr) (ns : List Int), s = .ref p ∧ SqL K H p (ns.map V.int) ∧ ns.length ≤ 63 ∧ Tabs (tabs Lms_k22 K) H ∧ ∀ H', Q (.bl true) H'
  | _ => False
def t_law (K : PySem.W.Frag) (E : XK) : TS := (tSeq (tAsg (tCall (sp_law_begun K) [] E (tCons (tVar 0) tNil)) (gName 1))
  (tSeq (tAsg (tLst (tConsC (.str "") (tConsC (.str " ") (tConsC (.str "0") (tConsC (.str "( )") (tConsC (.str "( 0 )") (tConsC (.str "( 0 1") (tConsC (.str "0 1") (tConsC (.str ")") (tConsC (.str "0 up") (tConsC (.str "0 up,") (tConsC (.str ", 0 up") (tConsC (.str "0 up,0 up") (tConsC (.str "0  up") tNil)))))))))))))) (gName 2))
   (tSeq (tDrop (tBM K "list" rAppend (tVar 2) (tConsC (.str "( ( 0 1 ) )") tNil)))
    (tSeq (tFor (iRng1 (tConsC (.int 6) tNil)) (gName 3) 
       (tSeq (tAsg (tCall (sp_law_kinds K) [] E (tCons (tVar 1) tNil)) (gName 4))
       (tSeq (tAsg (tCall (sp_law_order K) [] E (tCons (tVar 1) (tCons (tVar 4) tNil))) (gName 5))
        (tSeq (tAsg (tCall (sp_law_lengths K) [] E (tCons (tVar 1) (tConsC (.int 8) tNil))) (gName 6))
         (tSeq (tAsg (tOpD xAdd (.int 2) (tCall (sp_law_take K) [] E (tCons (tVar 1) (tConsC (.int 5) tNil)))) (gName 7))
          (tSeq (tAsg (tCall (sp_written_order K) [] E (tCons (tVar 4) (tCons (tVar 5) tNil))) (gName 8))
           (tSeq (tAsg (tCall (sp_written_plan K) [] E (tCons (tVar 6) (tCons (tVar 7) (tCons (tCall (sp_law_plan K) [] E (tCons (tVar 1) (tCons (tLstRg (tRg1 (tCB1 (xLen K) (tVar 6)))) (tCons (tVar 7) tNil)))) tNil)))) (gName 9))
            (tSeq (tFor (iRng1 (tCons (tCall (sp_law_take K) [] E (tCons (tVar 1) (tConsC (.int 4) tNil))) tNil)) (gName 10) (tAsg (tTup (tCons (tCall (sp_law_spoilt K) [] E (tCons (tVar 1) (tCons (tVar 8) tNil))) (tCons (tCall (sp_law_spoilt K) [] E (tCons (tVar 1) (tCons (tVar 9) tNil))) tNil))) (gTup K 2 (gCons (gName 8) (gCons (gName 9) gNil)))))
             (tSeq (tIfS (tTest (tOpC rEq (tCall (sp_law_take K) [] E (tCons (tVar 1) (tConsC (.int 5) tNil))) (.int 0))) (tAsg (tTup (tCons (tOp (rIxL K) (tVar 2) (tCall (sp_law_take K) [] E (tCons (tVar 1) (tConsC (.int 14) tNil)))) (tCons (tOp (rIxL K) (tVar 2) (tCall (sp_law_take K) [] E (tCons (tVar 1) (tConsC (.int 14) tNil)))) tNil))) (gTup K 2 (gCons (gName 8) (gCons (gName 9) gNil)))) tNext)
              (tSeq (tAsg (tLst (tCons (tCall (sp_law_order_due K) [] E (tCons (tVar 4) (tCons (tVar 8) tNil))) (tCons (tCall (sp_law_plan_due K) [] E (tCons (tCB1 (xLen K) (tVar 6)) (tCons (tVar 7) (tCons (tVar 9) tNil)))) tNil))) (gName 11))
               (tFor (iRng1 (tConsC (.int 2) tNil)) (gName 12) 
                  (tSeq (tAsg (tLst (tCons (tLam (tabs Lms_k22 K) (TTold K) (fun E => (tCall (sp_read_orderX K) [] E (tCons (tVar 4) (tCons (tVar 8) tNil))))) tNil)) (gName 13))
                  (tSeq (tDrop (tBM K "list" rAppend (tVar 13) (tCons (tLam (tabs Lms_k22 K) (TTold K) (fun E => (tCall (sp_read_planX K) [] E (tCons (tVar 6) (tCons (tVar 7) (tCons (tVar 9) tNil)))))) tNil)))
                   (tIfS (tNot (tB (tCall (sp_law_alike K) [] E (tCons (tVar 13) (tCons (tVar 11) tNil))))) (tRet (tC (.bl false))) tNext))))))))))))))
     (tRet (tC (.bl true)))))))
theorem num_opens {n : Nat} (h : n < 100) : opens (numS n) = 0 := by
  have : ∀ n : Nat, n < 100 → opens (numS n) = 0 := by decide +kernel
  exact this n h
mutual
theorem words_opens {w : Nat} : ∀ p : Pl, p.fits w = true → (∀ r ∈ p.runs, 0 ≤ r ∧ r < 100) → (p.words.map opens).sum + 1 ≤ p.runs.length ∧ ∀ x ∈ p.words, opens x ≤ 1
  | .leaf n, _, hr => by
    obtain ⟨h0, h1⟩ := hr n (by simp [Pl.runs])
    have e : n = ((n.toNat : Nat) : Int) := by omega
    have z := num_opens (n := n.toNat) (by omega)
    rw [← e] at z
    rw [Pl.words, Pl.runs]
    exact ⟨by simp [z], fun x hx => by rw [List.mem_singleton.mp hx, z]; omega⟩
  | .node ps, f, hr => by
    rw [Pl.fits] at f
    simp only [Bool.and_eq_true, decide_eq_true_eq] at f
    rw [Pl.runs] at hr
    obtain ⟨a, b⟩ := words_opensL ps f.2 hr
    have o1 : opens ("(" : Str) = 1 := by decide +kernel
    have o2 : opens (")" : Str) = 0 := by decide +kernel
    rw [Pl.words, Pl.runs]
    refine ⟨by simp [o1, o2]; omega, fun x hx => ?_⟩
    rcases List.mem_cons.mp hx with e | hx
    · rw [e, o1]; omega
    · rcases List.mem_append.mp hx with hx | hx
      · exact b x hx
      · rw [List.mem_singleton.mp hx, o2]; omega
theorem words_opensL {w : Nat} : ∀ ps : List Pl, Pl.fitsL w ps = true → (∀ r ∈ Pl.runsL ps, 0 ≤ r ∧ r < 100) → ((Pl.wordsL ps).map opens).sum + ps.length ≤ (Pl.runsL ps).length ∧ ∀ x ∈ Pl.wordsL ps, opens x ≤ 1
  | [], _, _ => by rw [Pl.wordsL, Pl.runsL]; exact ⟨by simp, fun x hx => by simp at hx⟩
  | p :: ps, f, hr => by
    rw [Pl.fitsL] at f
    simp only [Bool.and_eq_true] at f
    rw [Pl.runsL] at hr
    obtain ⟨a, b⟩ := words_opens p f.1 fun r h => hr r (List.mem_append_left _ h)
    obtain ⟨c, d⟩ := words_opensL ps f.2 fun r h => hr r (List.mem_append_right _ h)
    rw [Pl.wordsL, Pl.runsL]
    refine ⟨by simp only [List.map_append, List.sum_append, List.length_append, List.length_cons]; omega, fun x hx => ?_⟩
    rcases List.mem_append.mp hx with hx | hx
    · exact b x hx
    · exact d x hx
end
def oddL : List Str := ["", " ", "0", "( )", "( 0 )", "( 0 1", "0 1", ")", "0 up", "0 up,", ", 0 up", "0 up,0 up", "0  up", "( ( 0 1 ) )"]
theorem oddL_ok : ∀ x ∈ oddL, x.length ≤ 20 ∧ opens x ≤ 2 := by decide +kernel
theorem oddL_at {r : Int} (h0 : 0 ≤ r) (h1 : r < 14) : ∃ x, (oddL.map V.str)[r.toNat]? = some (.str x) ∧ x.length ≤ 20 ∧ opens x ≤ 2 := by
  have hl : r.toNat < oddL.length := by
    have : oddL.length = 14 := rfl
    omega
  obtain ⟨a, b⟩ := oddL_ok _ (List.getElem_mem hl)
  exact ⟨oddL[r.toNat], by rw [List.getElem?_map, List.getElem?_eq_getElem hl]; rfl, a, b⟩
def tAsk (K : PySem.W.Frag) (E : XK) : TS := (tSeq (tAsg (tLst (tCons (tLam (tabs Lms_k22 K) (TTold K) (fun E => (tCall (sp_read_orderX K) [] E (tCons (tVar 4) (tCons (tVar 8) tNil))))) tNil)) (gName 13))
                  (tSeq (tDrop (tBM K "list" rAppend (tVar 13) (tCons (tLam (tabs Lms_k22 K) (TTold K) (fun E => (tCall (sp_read_planX K) [] E (tCons (tVar 6) (tCons (tVar 7) (tCons (tVar 9) tNil)))))) tNil)))
                   (tIfS (tNot (tB (tCall (sp_law_alike K) [] E (tCons (tVar 13) (tCons (tVar 11) tNil))))) (tRet (tC (.bl false))) tNext)))
theorem asked {K : PySem.W.Frag} {E : XK} {EN : Ends} {H : Hp} {kv u1 u2 : V} {ks : List Str} {f D : Addr} {ls : List Int} {w : Nat} {x y : Str} {d1 d2 : PyData} {x0 x1 x2 x3 x5 x10 x12 x13 : Option V} (eT : ErrIs K "BadText") (mT : ErrMk K "BadText" "place") (eO : ErrIs K "BadOrder") (eP : ErrIs K "BadPlan") (TT : Tabs (tabs Lms_k22 K) H)
    (KA : KindsAt H kv ks) (gk : GoodKinds ks) (ef : H f = some (.lst (ls.map V.int))) (gl : GoodLens ls) (w2 : 2 ≤ w) (w6 : w ≤ 6) (xl : x.length ≤ 900) (yl : y.length ≤ 900) (oy : opens y ≤ 40) (eD : H D = some (.lst [u1, u2])) (t1 : Told1 H u1 d1) (t2 : Told2 H u2 d2) (i1 : OrdIs ks x d1) (i2 : PlanIs w ls.length y d2)
    (k : ∀ H' y13, TupLe H H' → (∀ z vs, H z = some (.lst vs) → H' z = some (.lst vs)) → Tabs (tabs Lms_k22 K) H' → ButN [] H H' → EN.nx [x0, x1, x2, x3, some kv, x5, some (.ref f), some (.int (w : Int)), some (.str x), some (.str y), x10, some (.ref D), x12, y13] H') :
    tAsk K E EN [x0, x1, x2, x3, some kv, x5, some (.ref f), some (.int (w : Int)), some (.str x), some (.str y), x10, some (.ref D), x12, x13] H := by
  -- behind the second one
  have fin2 : ∀ (H2 H5 : Hp) (fl : Addr) (v v2 : V), TupLe H H2 → ButN [] H H2 → H2 fl = none → Told1 H2 v d1 → TupLe H2 H5 → ButN [] H2 H5 → H5 fl = some (.lst [v]) → Told2 H5 v2 d2 → Tabs (tabs Lms_k22 K) H5 →
      rAppend (.ref fl) [v2] H5 (fun _ H' => (tIfS (tNot (tB (tCall (sp_law_alike K) [] E (tCons (tVar 13) (tCons (tVar 11) tNil))))) (tRet (tC (.bl false))) tNext) EN [x0, x1, x2, x3, some kv, x5, some (.ref f), some (.int (w : Int)), some (.str x), some (.str y), x10, some (.ref D), x12, some (.ref fl)] H') := fun H2 H5 fl v v2 tu2 b2 hfl tv tu5 b5 efl tv2 T5 => by
    refine ⟨_, _, _, rfl, rfl, efl, szlt (by show 1 < 100000; decide), ?_⟩
    have t6 : TupLe H5 (upd H5 fl (.lst ([v] ++ [v2]))) := (TupLe.refl _).list efl
    have T6 : Tabs (tabs Lms_k22 K) (upd H5 fl (.lst ([v] ++ [v2]))) := tabs_but T5 (F := [fl]) ((But.refl _ _).put (by simp)) fun z hz u hu => by
      rw [List.mem_singleton.mp hz, efl] at hu
      cases hu
      exact free_lst
    have lk2 : ∀ z vs, H2 z = some (.lst vs) → upd H5 fl (.lst ([v] ++ [v2])) z = some (.lst vs) := fun z vs e => by
      rw [upd_ne (fun q => by rw [q, hfl] at e; cases e)]
      exact b5 _ _ e (fun _ q => by cases q) (by simp)
    have lk : ∀ z vs, H z = some (.lst vs) → upd H5 fl (.lst ([v] ++ [v2])) z = some (.lst vs) := fun z vs e => lk2 z vs (b2 _ _ e (fun _ q => by cases q) (by simp))
    have tu6 := (tu2.trans tu5).trans t6
    have bn : ButN [] H (upd H5 fl (.lst ([v] ++ [v2]))) := fun z o e n _ => by
      have e2 := b2 z o e n (by simp)
      rw [upd_ne (fun q => by rw [q, hfl] at e2; cases e2)]
      exact b5 z o e2 n (by simp)
    have q1 := tv.keep (tu5.trans t6) lk2
    have q2 := (tv2.tup t6).one
    have p1 := t1.keep tu6 lk
    have p2 := t2.one.keep tu6 lk
    have e6 : upd H5 fl (.lst ([v] ++ [v2])) fl = some (.lst [v, v2]) := upd_same
    have eD6 := lk _ _ eD
    generalize upd H5 fl (.lst ([v] ++ [v2])) = H6 at T6 lk tu6 bn q1 q2 p1 p2 e6 eD6 ⊢
    refine ⟨_, rfl, _, rfl, .list [d1, d2], ?_, .lst (SqL.of e6) (.cons q1.dp (.cons q2.dp .nil)), .lst (SqL.of eD6) (.cons p1.dp (.cons p2.dp .nil)), _, rfl, k H6 _ tu6 lk T6 bn⟩
    refine Rs.okA.to (n := 44) ⟨by show 2 ≤ 100000; decide, fun d hd => ?_⟩ (by decide)
    simp only [List.mem_cons, List.not_mem_nil, or_false] at hd
    rcases hd with rfl | rfl
    · exact q1.ok
    · exact q2.ok
  -- behind the first one
  have fin1 : ∀ (H2 : Hp) (v : V), TupLe H H2 → ButN [] H H2 → Told1 H2 v d1 → Tabs (tabs Lms_k22 K) H2 → ∀ fl, H2 fl = none → (tSeq (tDrop (tBM K "list" rAppend (tVar 13) (tCons (tLam (tabs Lms_k22 K) (TTold K) (fun E => (tCall (sp_read_planX K) [] E (tCons (tVar 6) (tCons (tVar 7) (tCons (tVar 9) tNil)))))) tNil)))
                   (tIfS (tNot (tB (tCall (sp_law_alike K) [] E (tCons (tVar 13) (tCons (tVar 11) tNil))))) (tRet (tC (.bl false))) tNext)) EN [x0, x1, x2, x3, some kv, x5, some (.ref f), some (.int (w : Int)), some (.str x), some (.str y), x10, some (.ref D), x12, some (.ref fl)] (upd H2 fl (.lst [v])) := fun H2 v tu2 b2 tv T2 fl hfl => by
    have hfl0 := hfl
    generalize gX : upd _ fl _ = H3
    have s3 := newS hfl gX
    have efl := newE gX
    clear gX
    have ef3 : H3 f = some (.lst (ls.map V.int)) := s3 _ _ (b2 _ _ ef (fun _ z => by cases z) (by simp))
    refine ⟨_, rfl, .inl ⟨rfl, _, SqL.of efl⟩, told_by (tabs_same T2 s3) fun H4 e4 T4 => ?_⟩
    have tu24 := (TupLe.same s3).trans (extN_tup e4)
    have b24 : ButN [] H2 H4 := (ButN.of (But.same s3)).trans (ButN.ext e4)
    have n4 : ∀ {z : Addr} {vs : List V}, H3 z = some (.lst vs) → H4 z = some (.lst vs) := fun h => e4 _ _ h fun _ q => by cases q
    have go : ∀ (H5 : Hp) (v2 : V), Same H4 H5 → Told2 H5 v2 d2 → rAppend (.ref fl) [v2] H5 (fun _ H' => (tIfS (tNot (tB (tCall (sp_law_alike K) [] E (tCons (tVar 13) (tCons (tVar 11) tNil))))) (tRet (tC (.bl false))) tNext) EN [x0, x1, x2, x3, some kv, x5, some (.ref f), some (.int (w : Int)), some (.str x), some (.str y), x10, some (.ref D), x12, some (.ref fl)] H') := fun H5 v2 s5 h2 =>
      fin2 H2 H5 fl v v2 tu2 b2 hfl0 tv (tu24.trans (TupLe.same s5)) (b24.trans (ButN.of (But.same s5))) (s5 _ _ (n4 efl)) h2 (tabs_same T4 s5)
    refine ⟨_, rfl, _, rfl, _, rfl, f, ls, w, y, rfl, n4 ef3, gl, rfl, w2, w6, rfl, yl, oy, fun m e dd H5 hd s5 => ?_, fun p e pd ps => ⟨fun ok v2 H5 hv s5 => ?_, fun nok H5 s5 => ?_⟩⟩
    · refine rErr_place eT mT (.inr rfl) (by decide) upd_same fun u H6 hu s6 eu => ?_
      exact go H6 _ (s5.trans ((Rs.Same.new hd).trans s6)) (.inl ⟨_, _, u, rfl, eu, i2.1 m e⟩)
    · exact go H5 v2 s5 (.inr ⟨p, hv, pd, ps, (i2.2 p e).1 ok⟩)
    · refine rErr_plain eP (by decide) fun u H6 hu s6 eu => ?_
      exact go H6 _ (s5.trans s6) (.inl ⟨_, _, u, rfl, eu, (i2.2 p e).2 nok⟩)
  refine told_by TT fun H1 e1 T1 => ?_
  have tu1 := extN_tup e1
  have b1 : ButN [] H H1 := ButN.ext e1
  refine ⟨_, rfl, _, rfl, ks, x, KA.mono tu1, gk, rfl, by omega, fun n e dd H2 hd s2 => ?_, fun o e => ⟨fun g l H2 hl L s2 => ?_, fun ng H2 s2 => ?_⟩⟩
  · refine rErr_place eT mT (.inr rfl) (by decide) upd_same fun u H3 hu s3 eu => ⟨szle (by show 1 ≤ 100000; decide), fun fl hfl => ?_⟩
    have s13 := s2.trans ((Rs.Same.new hd).trans s3)
    exact fin1 H3 _ (tu1.trans (TupLe.same s13)) (b1.trans (ButN.of (But.same s13))) (.inl ⟨_, _, u, rfl, eu, i1.1 n e⟩) (tabs_same T1 s13) fl hfl
  · refine ⟨szle (by show 1 ≤ 100000; decide), fun fl hfl => ?_⟩
    have ol := ordL_len _ _ _ e
    have pf := split_few (x := x) sep_comma
    exact fin1 H2 _ (tu1.trans (TupLe.same s2)) (b1.trans (ButN.of (But.same s2))) (.inr (.inl ⟨l, o, rfl, L, by omega, (i1.2 o e).1 g⟩)) (tabs_same T1 s2) fl hfl
  · refine rErr_plain eO (by decide) fun u H3 hu s3 eu => ⟨szle (by show 1 ≤ 100000; decide), fun fl hfl => ?_⟩
    have s13 := s2.trans s3
    exact fin1 H3 _ (tu1.trans (TupLe.same s13)) (b1.trans (ButN.of (But.same s13))) (.inl ⟨_, _, u, rfl, eu, (i1.2 o e).2 ng⟩) (tabs_same T1 s13) fl hfl
theorem pure_law {K : PySem.W.Frag} (eBadText : ErrIs K "BadText") (mBadText : ErrMk K "BadText" "place") (eBadOrder : ErrIs K "BadOrder") (eBadPlan : ErrIs K "BadPlan") : ∀ vs H Q E, sp_law K vs H Q E → t_law K E { nx := fun _ H' => Q .non H', rt := Q } (start N_law vs) H := by
  intro vs H Q E h
  match vs, h with
  | [sv], h =>
    obtain ⟨s, ns, rfl, hs, l63, TT, k⟩ := h
    refine ⟨_, rfl, s, ns, rfl, hs, l63, fun a l H1 ha hl B1 s1 => ?_⟩
    refine ⟨szle (by show 13 ≤ 100000; decide), fun od hod => ?_⟩
    have nod := B1.fresh hod
    have hod0 := hod
    generalize gX : upd _ od _ = H2
    have s2 := newS hod gX
    have eod := newE gX
    clear gX
    refine ⟨_, rfl, .inl ⟨rfl, _, SqL.of eod⟩, _, _, _, rfl, rfl, eod, szlt (by show 13 < 100000; decide), ?_⟩
    have s13 : Same H1 (upd H2 od (.lst (oddL.map V.str))) := Rs.Same.mut s2 hod0
    have eod3 : upd H2 od (.lst (oddL.map V.str)) od = some (.lst (oddL.map V.str)) := upd_same
    have eodd : ([V.str "", V.str " ", V.str "0", V.str "( )", V.str "( 0 )", V.str "( 0 1", V.str "0 1", V.str ")", V.str "0 up", V.str "0 up,", V.str ", 0 up", V.str "0 up,0 up", V.str "0  up"] ++ [V.str "( ( 0 1 ) )"] : List V) = oddL.map V.str := rfl
    rw [eodd]
    generalize upd H2 od (.lst (oddL.map V.str)) = H3 at s13 eod3 ⊢
    refine ⟨_, rfl, by decide, by decide, ?_⟩
    refine for_range (lo := 0) (n := (6 : Int).toNat) (fun i σ H' => ∃ x3 x4 x5 x6 x7 x8 x9 x10 x11 x12 x13, σ = [some (.ref s), some (.ref a), some (.ref od), x3, x4, x5, x6, x7, x8, x9, x10, x11, x12, x13] ∧ Box H' a l ∧ Tabs (tabs Lms_k22 K) H' ∧ H' od = some (.lst (oddL.map V.str)))
      ⟨_, _, _, _, _, _, _, _, _, _, _, rfl, B1.same s13, tabs_same TT (s1.trans s13), eod3⟩ ?_ ?_
    rotate_left
    · rintro σ HX ⟨x3, x4, x5, x6, x7, x8, x9, x10, x11, x12, x13, rfl, BX, TX, eX⟩
      exact k HX
    clear s13 eod3 eodd s2 eod
    rintro i σ H0 hi ⟨x3, x4, x5, x6, x7, x8, x9, x10, x11, x12, x13, rfl, B0, T0, eod0⟩
    refine ⟨_, rfl, a, l, rfl, B0, fun kv ks H1 KA gk B1 k1 => ?_⟩
    refine ⟨_, rfl, _, rfl, a, l, ks, rfl, B1, KA, gk, fun fo o H2 hfo Lo go B2 k2 => ?_⟩
    have nfo := B1.fresh hfo
    refine ⟨_, rfl, a, l, 8, rfl, rfl, by decide, by decide, B2, fun f ls H3 hf ef gl l8 B3 k3 => ?_⟩
    have ff := B2.fresh hf
    have g1 := gl.pos
    have l8' : ls.length ≤ 8 := by omega
    refine ⟨_, rfl, a, l, _, rfl, rfl, by decide, by decide, B3, fun r H4 r0 r1 B4 k4 => ⟨_, _, rfl, rfl, ?_⟩⟩
    obtain ⟨w, ew, w2, w6⟩ : ∃ w : Nat, (2 + r : Int) = (w : Int) ∧ 2 ≤ w ∧ w ≤ 6 := ⟨(2 + r).toNat, by omega, by omega, by omega⟩
    dsimp only
    rw [ew]
    have k24 := k3.trans k4
    have KA4 : KindsAt H4 kv ks := KA.mono ((B1.tup k2).trans (B2.tup k24))
    have Lo4 : Lst TurnAt H4 fo o := Lo.keep TurnAt.st (B2.tup k24) fun o e => k24 _ _ e nfo
    refine ⟨_, rfl, _, rfl, ks, o, fo, KA4, gk, rfl, Lo4, go, fun H5 s5 => ?_⟩
    have ef5 : H5 f = some (.lst (ls.map V.int)) := s5 _ _ (k4 _ _ ef ff)
    have B5 := B4.same s5
    refine ⟨_, rfl, _, rfl, _, rfl, _, rfl, lenL ef5 rfl ⟨_, rfl, RgOk.of_le (by decide) (by rw [List.length_map]; omega) (by decide) (by omega), fun q2 hq2 => ?_⟩⟩
    have erg : rgV 0 (((ls.map V.int).length : Nat) : Int) = (rng 0 ls.length).map V.int := by
      unfold rgV rng
      rw [List.length_map, List.map_map]
      rfl
    rw [erg]
    generalize gX : upd _ q2 _ = H6
    have s6 := newS hq2 gX
    have eq2 := newE gX
    clear gX
    have rl := rng_len ls.length
    refine ⟨_, rfl, a, l, q2, rng 0 ls.length, w, rfl, rfl, eq2, rfl, w2, w6, by omega, by omega, B5.same s6, fun v pl H7 hv fit pm B7 k7 => ?_⟩
    have ef7 := k7 _ _ (s6 _ _ ef5) ff
    refine ⟨f, ls, w, pl, rfl, ef7, gl, rfl, w2, w6, hv, fit, pm, fun H8 s8 => ?_⟩
    have prl := pm.length_eq
    rw [rl] at prl
    have rin : ∀ r ∈ pl.runs, 0 ≤ r ∧ r < 100 := fun r hr => by
      have := rng_in (pm.mem_iff.mp hr)
      omega
    have B8 := B7.same s8
    have k48 := ((But.same (S := [a, l]) (s5.trans s6)).trans k7).trans (But.same (S := [a, l]) s8)
    have k08 := ((k1.trans k2).trans k24).trans k48
    have KA8 : KindsAt H8 kv ks := KA4.mono (B4.tup k48)
    have ef8 := s8 _ _ ef7
    have eod8 := k08 _ _ eod0 nod
    have T8 := tabs_but T0 k08 B0.free
    obtain ⟨wo1, wo2⟩ := words_opens pl fit rin
    have top : opens pl.text ≤ 7 := by
      rw [← Pl.join_eq fit, join_opens]
      omega
    have tcalm : Calm1 pl.text := fun x hx => by
      rw [split_words fit rin] at hx
      exact wo2 x hx
    have tlen := Pl.text_len pl fit rin
    have tlen2 : pl.text.length ≤ 64 := by omega
    have olen := ord_len (fun t ht => by have := go.col t ht; have := gk.le; omega) (go.len gk.le)
    clear wo1 wo2 hv pm fit rin prl s8 s6 s5 k7 eq2 Lo Lo4 go erg rl k1 k2 k3 k4 k24 k48 ef ef5 ef7 B1 B2 B3 B4 B5 B7
    have rest : ∀ (H9 : Hp) (x y : Str) (x10 : Option V), Box H9 a l → But [a, l] H8 H9 → x.length ≤ 856 → y.length ≤ 856 → opens y ≤ 35 → ((tSeq (tAsg (tLst (tCons (tCall (sp_law_order_due K) [] E (tCons (tVar 4) (tCons (tVar 8) tNil))) (tCons (tCall (sp_law_plan_due K) [] E (tCons (tCB1 (xLen K) (tVar 6)) (tCons (tVar 7) (tCons (tVar 9) tNil)))) tNil))) (gName 11))
               (tFor (iRng1 (tConsC (.int 2) tNil)) (gName 12) 
                  (tAsk K E))) : TS) { nx := fun σ H' => ∃ x3 x4 x5 x6 x7 x8 x9 x10 x11 x12 x13, σ = [some (.ref s), some (.ref a), some (.ref od), x3, x4, x5, x6, x7, x8, x9, x10, x11, x12, x13] ∧ Box H' a l ∧ Tabs (tabs Lms_k22 K) H' ∧ H' od = some (.lst (oddL.map V.str)), rt := Q } [some (.ref s), some (.ref a), some (.ref od), some (.int (0 + (i : Int))), some kv, some (.ref fo), some (.ref f), some (.int (w : Int)), some (.str x), some (.str y), x10, x11, x12, x13] H9 := fun H9 x y x10 B9 k9 xl yl oy => by
      have KA9 : KindsAt H9 kv ks := KA8.mono (B8.tup k9)
      have ef9 := k9 _ _ ef8 ff
      have eod9 := k9 _ _ eod8 nod
      have T9 := tabs_but T8 k9 B8.free
      have loop : ∀ (HB : Hp) (D : Addr) (u1 u2 : V) (d1 d2 : PyData), Same H9 HB → HB D = some (.lst [u1, u2]) → Told1 HB u1 d1 → Told2 HB u2 d2 → OrdIs ks x d1 → PlanIs w ls.length y d2 → (tFor (iRng1 (tConsC (.int 2) tNil)) (gName 12) (tAsk K E)) { nx := fun σ H' => ∃ x3 x4 x5 x6 x7 x8 x9 x10 x11 x12 x13, σ = [some (.ref s), some (.ref a), some (.ref od), x3, x4, x5, x6, x7, x8, x9, x10, x11, x12, x13] ∧ Box H' a l ∧ Tabs (tabs Lms_k22 K) H' ∧ H' od = some (.lst (oddL.map V.str)), rt := Q } [some (.ref s), some (.ref a), some (.ref od), some (.int (0 + (i : Int))), some kv, some (.ref fo), some (.ref f), some (.int (w : Int)), some (.str x), some (.str y), x10, some (.ref D), x12, x13] HB := fun HB D u1 u2 d1 d2 sB eD t1 t2 i1 i2 => by
        refine ⟨_, rfl, by decide, by decide, ?_⟩
        refine for_range (lo := 0) (n := (2 : Int).toNat) (fun j σ H' => ∃ z12 z13, σ = [some (.ref s), some (.ref a), some (.ref od), some (.int (0 + (i : Int))), some kv, some (.ref fo), some (.ref f), some (.int (w : Int)), some (.str x), some (.str y), x10, some (.ref D), z12, z13] ∧ Box H' a l ∧ Tabs (tabs Lms_k22 K) H' ∧ H' od = some (.lst (oddL.map V.str)) ∧ KindsAt H' kv ks ∧ H' f = some (.lst (ls.map V.int)) ∧ H' D = some (.lst [u1, u2]) ∧ Told1 H' u1 d1 ∧ Told2 H' u2 d2)
          ⟨_, _, rfl, B9.same sB, tabs_same T9 sB, sB _ _ eod9, KA9.mono (TupLe.same sB), sB _ _ ef9, eD, t1, t2⟩ ?_ ?_
        · rintro j σ HC hj ⟨z12, z13, rfl, BC, TC, oC, KC, fC, DC, c1, c2⟩
          refine asked eBadText mBadText eBadOrder eBadPlan TC KC gk fC gl w2 w6 (by omega) (by omega) (by omega) DC c1 c2 i1 i2 fun H' y13 tu lk T' bn => ?_
          exact ⟨_, _, rfl, BC.keepN bn (fun _ _ z => (nomatch z)), T', lk _ _ oC, KC.mono tu, lk _ _ fC, lk _ _ DC, c1.keep tu lk, c2.tup tu⟩
        · rintro σ HC ⟨z12, z13, rfl, BC, TC, oC, KC, fC, DC, c1, c2⟩
          exact ⟨_, _, _, _, _, _, _, _, _, _, _, rfl, BC, TC, oC⟩
      have goP : ∀ (HA : Hp) (u1 : V) (d1 : PyData), Same H9 HA → Told1 HA u1 d1 → OrdIs ks x d1 → (tCons (tCall (sp_law_plan_due K) [] E (tCons (tCB1 (xLen K) (tVar 6)) (tCons (tVar 7) (tCons (tVar 9) tNil)))) tNil) [some (.ref s), some (.ref a), some (.ref od), some (.int (0 + (i : Int))), some kv, some (.ref fo), some (.ref f), some (.int (w : Int)), some (.str x), some (.str y), x10, x11, x12, x13] HA (fun vs HB => (u1 :: vs).length ≤ sizeLine ∧ ∀ q, HB q = none → (tFor (iRng1 (tConsC (.int 2) tNil)) (gName 12) (tAsk K E)) { nx := fun σ H' => ∃ x3 x4 x5 x6 x7 x8 x9 x10 x11 x12 x13, σ = [some (.ref s), some (.ref a), some (.ref od), x3, x4, x5, x6, x7, x8, x9, x10, x11, x12, x13] ∧ Box H' a l ∧ Tabs (tabs Lms_k22 K) H' ∧ H' od = some (.lst (oddL.map V.str)), rt := Q } [some (.ref s), some (.ref a), some (.ref od), some (.int (0 + (i : Int))), some kv, some (.ref fo), some (.ref f), some (.int (w : Int)), some (.str x), some (.str y), x10, some (.ref q), x12, x13] (upd HB q (.lst (u1 :: vs)))) := fun HA u1 d1 sA c1 i1 => by
        have fin : ∀ (HB : Hp) (u2 : V) (d2 : PyData), Same HA HB → Told2 HB u2 d2 → PlanIs w ls.length y d2 → [u1, u2].length ≤ sizeLine ∧ ∀ q, HB q = none → (tFor (iRng1 (tConsC (.int 2) tNil)) (gName 12) (tAsk K E)) { nx := fun σ H' => ∃ x3 x4 x5 x6 x7 x8 x9 x10 x11 x12 x13, σ = [some (.ref s), some (.ref a), some (.ref od), x3, x4, x5, x6, x7, x8, x9, x10, x11, x12, x13] ∧ Box H' a l ∧ Tabs (tabs Lms_k22 K) H' ∧ H' od = some (.lst (oddL.map V.str)), rt := Q } [some (.ref s), some (.ref a), some (.ref od), some (.int (0 + (i : Int))), some kv, some (.ref fo), some (.ref f), some (.int (w : Int)), some (.str x), some (.str y), x10, some (.ref q), x12, x13] (upd HB q (.lst [u1, u2])) := fun HB u2 d2 sB c2 i2 => by
          refine ⟨szle (by show 2 ≤ 100000; decide), fun q hq => ?_⟩
          generalize gX : upd _ q _ = HC
          have sC := newS hq gX
          have eC := newE gX
          clear gX
          exact loop HC q u1 u2 d1 d2 ((sA.trans sB).trans sC) eC (c1.same (sB.trans sC)) (c2.tup (TupLe.same sC)) i1 i2
        refine ⟨_, rfl, lenL (sA _ _ ef9) rfl ⟨_, rfl, _, rfl, ls.length, w, y, by rw [List.length_map], by omega, rfl, rfl, by omega, by omega, fun m e t HB ht et sB => ?_, fun p e => ⟨fun ok v HB hv sB => ?_, fun nok t HB ht et sB => ?_⟩⟩⟩
        · exact fin HB _ _ sB (.inl ⟨_, _, t, rfl, et, rfl⟩) ⟨fun m2 e2 => (by rw [e] at e2; cases e2; rfl), fun p e2 => (by rw [e] at e2; cases e2)⟩
        · have dp := Pl.deep p ok.1
          have pl := ok.2.length_eq
          rw [rng_len] at pl
          exact fin HB _ _ sB (.inr ⟨p, hv, by omega, Pl.slim_fits (by omega) p ok.1, rfl⟩) ⟨fun m2 e2 => (by rw [e] at e2; cases e2), fun p2 e2 => (by rw [e] at e2; cases e2; exact ⟨fun _ => rfl, fun z => (z ok).elim⟩)⟩
        · exact fin HB _ _ sB (.inl ⟨_, _, t, rfl, et, rfl⟩) ⟨fun m2 e2 => (by rw [e] at e2; cases e2), fun p2 e2 => (by rw [e] at e2; cases e2; exact ⟨fun z => (nok z).elim, fun _ => rfl⟩)⟩
      refine ⟨_, rfl, _, rfl, ks, x, KA9, rfl, by omega, fun n e t HA ht et sA => ?_, fun o2 e => ⟨fun g lo HA hlo L sA => ?_, fun ng t HA ht et sA => ?_⟩⟩
      · exact goP HA _ _ sA (.inl ⟨_, _, t, rfl, et, rfl⟩) ⟨fun m2 e2 => (by rw [e] at e2; cases e2; rfl), fun p e2 => (by rw [e] at e2; cases e2)⟩
      · have ol := ordL_len _ _ _ e
        have pf := split_few (x := x) sep_comma
        exact goP HA _ _ sA (.inr (.inl ⟨lo, o2, rfl, L, by omega, rfl⟩)) ⟨fun m2 e2 => (by rw [e] at e2; cases e2), fun p2 e2 => (by rw [e] at e2; cases e2; exact ⟨fun _ => rfl, fun z => (z g).elim⟩)⟩
      · exact goP HA _ _ sA (.inl ⟨_, _, t, rfl, et, rfl⟩) ⟨fun m2 e2 => (by rw [e] at e2; cases e2), fun p2 e2 => (by rw [e] at e2; cases e2; exact ⟨fun z => (ng z).elim, fun _ => rfl⟩)⟩
    refine ⟨_, rfl, a, l, _, rfl, rfl, by decide, by decide, B8, fun m H9 m0 m1 B9 k9 => ⟨_, rfl, by omega, by omega, ?_⟩⟩
    refine for_range (lo := 0) (n := m.toNat) (fun j σ H' => ∃ (x y : Str) (x10 : Option V), σ = [some (.ref s), some (.ref a), some (.ref od), some (.int (0 + (i : Int))), some kv, some (.ref fo), some (.ref f), some (.int (w : Int)), some (.str x), some (.str y), x10, x11, x12, x13] ∧ Box H' a l ∧ But [a, l] H8 H' ∧ ((j = 0 ∧ x.length ≤ 100 ∧ y.length ≤ 100 ∧ opens y ≤ 7 ∧ Calm1 y) ∨ (j = 1 ∧ x.length ≤ 208 ∧ y.length ≤ 208 ∧ opens y ≤ 8) ∨ (j = 2 ∧ x.length ≤ 424 ∧ y.length ≤ 424 ∧ opens y ≤ 17) ∨ (j = 3 ∧ x.length ≤ 856 ∧ y.length ≤ 856 ∧ opens y ≤ 35)))
      ⟨_, _, x10, rfl, B9, k9, .inl ⟨rfl, olen, by omega, top, tcalm⟩⟩ ?_ ?_
    · rintro j σ HA hj ⟨x, y, x10, rfl, BA, kA, bnd⟩
      have hj2 : j ≤ 2 := by omega
      have lens : x.length ≤ 424 ∧ y.length ≤ 424 := by omega
      refine ⟨_, rfl, _, rfl, a, l, x, rfl, BA, rfl, by omega, fun x2 HB xb _ _ BB kB => ⟨_, rfl, _, rfl, a, l, y, rfl, BB, rfl, by omega, fun y2 HC yb yo yc BC kC => ⟨szle (by show 2 ≤ 100000; decide), fun t ht => ?_⟩⟩⟩
      generalize gX : upd _ t _ = HD
      have sD := newS ht gX
      have et := newE gX
      clear gX
      refine ⟨t, _, rfl, SqT.of et, rfl, _, _, rfl, _, _, rfl, rfl, x2, y2, _, rfl, BC.same sD, ((kA.trans kB).trans kC).trans (But.same sD), ?_⟩
      rcases bnd with ⟨rfl, b1, b2, b3, b4⟩ | ⟨rfl, b1, b2, b3⟩ | ⟨rfl, b1, b2, b3⟩ | ⟨rfl, b1, b2, b3⟩
      · exact .inr (.inl ⟨rfl, by omega, by omega, by have := yc b4; omega⟩)
      · exact .inr (.inr (.inl ⟨rfl, by omega, by omega, by omega⟩))
      · exact .inr (.inr (.inr ⟨rfl, by omega, by omega, by omega⟩))
      · omega
    · rintro σ HA ⟨x, y, x10, rfl, BA, kA, bnd⟩
      have lens : x.length ≤ 856 ∧ y.length ≤ 856 ∧ opens y ≤ 35 := by omega
      refine ⟨_, rfl, a, l, _, rfl, rfl, by decide, by decide, BA, fun g HB g0 g1 BB kB => ⟨rfl, _, rfl, ?_⟩⟩
      have kAB := kA.trans kB
      by_cases c : V.int g = V.int 0
      rotate_left
      · rw [decide_eq_false c]
        exact rest HB x y x10 BB kAB lens.1 lens.2.1 lens.2.2
      rw [decide_eq_true c]
      have oB := kAB _ _ eod8 nod
      refine ⟨_, rfl, _, rfl, a, l, _, rfl, rfl, by decide, by decide, BB, fun p1 HC p10 p11 BC kC => ?_⟩
      obtain ⟨x2, hx2, xl2, _⟩ := oddL_at p10 p11
      have oC := kC _ _ oB nod
      refine ixL oC (j := p1.toNat) (by omega) hx2 ⟨_, rfl, _, rfl, a, l, _, rfl, rfl, by decide, by decide, BC, fun p2 HD p20 p21 BD kD => ?_⟩
      obtain ⟨y2, hy2, yl2, yo2⟩ := oddL_at p20 p21
      refine ixL (kD _ _ oC nod) (j := p2.toNat) (by omega) hy2 ⟨szle (by show 2 ≤ 100000; decide), fun t ht => ?_⟩
      generalize gX : upd _ t _ = HE
      have sE := newS ht gX
      have et := newE gX
      clear gX
      refine ⟨t, _, rfl, SqT.of et, rfl, _, _, rfl, _, _, rfl, rfl, ?_⟩
      exact rest HE x2 y2 x10 (BD.same sE) (((kAB.trans kC).trans kD).trans (But.same sE)) (by omega) (by omega) (by omega)
end Rs


namespace Lw
open PySem PySem.Spec PyProof.Rows L2 Rs LamX
structure Wd (K : PySem.W.Frag) (mg : Str → Option Value) (base : Heap) : Prop where
  c : Hx.SaysM fs fn K
  X : ∃ h : Heap, K.In h ∧ h.Ns mainGlobals mg
  tab : TabF K mg base Lms_k22
section
variable {K : PySem.W.Frag} {mg : Str → Option Value} {base : Heap}
theorem nodup_tabs (c : Hx.SaysM fs fn K) : ((tabs Lms_k22 K).map (·.1)).Nodup := of_decide_eq_true (c.fact 0 (f := fun K => decide ((tf.map fun p => (He.cT K p).2).Nodup)) rfl)
theorem Wd.err (W : Wd K mg base) (i : Nat) {x : Str} (h : fe[i]? = some x) : ErrIs K x := errB_ok (W.c.fact (i + 1) (f := fun K => Rs.errB x K) (by
  show (fe.map (fun x K => Rs.errB x K) ++ fr)[i]? = _
  rw [List.getElem?_append_left (by rw [List.length_map]; exact (List.getElem?_eq_some_iff.mp h).1), List.getElem?_map, h]; rfl))
theorem Wd.em (W : Wd K mg base) (i : Nat) {x f : Str} (h : fm[i]? = some (x, f)) : ErrMk K x f := emB_ok (W.c.fact (fe.length + i + 1) (f := fun K => Rs.emB x f K) (by
  show (fe.map (fun x K => Rs.errB x K) ++ fr)[fe.length + i]? = _
  rw [List.getElem?_append_right (by rw [List.length_map]; omega), List.length_map, Nat.add_sub_cancel_left]
  unfold fr
  rw [List.getElem?_append_left (by rw [List.length_map]; exact (List.getElem?_eq_some_iff.mp h).1), List.getElem?_map, h]; rfl))
theorem says_fact (c : Hx.SaysM fs fn K) (i : Nat) {f : He.Fa} (h : fa[i]? = some f) : f.ok K = true := c.fact (fe.length + (fm.length + i) + 1) (f := fun K => f.ok K) (by
  show (fe.map (fun x K => Rs.errB x K) ++ fr)[fe.length + (fm.length + i)]? = _
  rw [List.getElem?_append_right (by rw [List.length_map]; omega), List.length_map, Nat.add_sub_cancel_left]
  unfold fr
  rw [List.getElem?_append_right (by rw [List.length_map]; omega), List.length_map, Nat.add_sub_cancel_left, List.getElem?_map, h]; rfl)
theorem Wd.fact (W : Wd K mg base) (i : Nat) {f : He.Fa} (h : fa[i]? = some f) : f.ok K = true := says_fact W.c i h
theorem lms_tf (p : He.Defn × Str) (h : p ∈ Lms_k22) : p.1 ∈ tf := by
  have e : Lms_k22.map (·.1) = tf := rfl
  rw [← e]
  exact List.mem_map.mpr ⟨p, h, rfl⟩
theorem tabs_start (H : Hp) (h : ∀ p ∈ tf, H (He.cT K p).2 = some (.tbl #[])) : Tabs (tabs Lms_k22 K) H := fun q hq => by
  obtain ⟨p, hp, rfl⟩ := List.mem_map.mp hq
  exact TabS.nil (h _ (lms_tf p hp))
theorem Wd.glo (W : Wd K mg base) (i : Nat) {x : Str} (h : fa[i]? = some (.glo x)) : mg x = some (.ref (He.ga K x)) := let ⟨_, a, b⟩ := W.X; He.glo_ok a b (W.fact i h)
theorem Wd.free (W : Wd K mg base) (i : Nat) {x : Str} (h : fa[i]? = some (.free x)) : mg x = none := let ⟨_, a, b⟩ := W.X; He.free_ok a b (W.fact i h)
theorem Wd.int (W : Wd K mg base) (i : Nat) {x : Str} {z : Int} (h : fa[i]? = some (.int x z)) : ∃ t, mg x = some (.int z t) := let ⟨_, a, b⟩ := W.X; He.int_ok a b (W.fact i h)
theorem Wd.str (W : Wd K mg base) (i : Nat) {x z : Str} (h : fa[i]? = some (.str x z)) : ∃ t, mg x = some (.str z t) := let ⟨_, a, b⟩ := W.X; He.str_ok a b (W.fact i h)
theorem Wd.cls (W : Wd K mg base) (i : Nat) {x : Str} (h : fa[i]? = some (.cls x)) : Cls K (He.ga K x) := He.cls_ok (W.fact i h)
theorem Wd.noat (W : Wd K mg base) (i : Nat) {x f : Str} (h : fa[i]? = some (.noat x f)) : NoAttr K (He.ga K x) f := He.noat_ok (W.fact i h)
theorem Wd.meth (W : Wd K mg base) (i : Nat) {x m : Str} (h : fa[i]? = some (.meth x m)) : Meth K (He.ga K x) m (He.ma K (He.ga K x) m) := He.meth_ok (W.fact i h)
theorem Wd.exc (W : Wd K mg base) (i : Nat) {x : Str} (h : fa[i]? = some (.exc x)) : PySem.W.excIn K (He.ga K x) He.veBase "ValueError.__new__" = true ∧ PySem.W.keepIn K (.ref (He.ga K x)) = true ∧ PySem.W.subIn K (.ref (He.ga K x)) (.type "BaseException") = some true ∧ PySem.W.typeIn K (.ref (He.ga K x)) = some (.type "type") := He.exc_ok (W.fact i h)
theorem Wd.exm (W : Wd K mg base) (i : Nat) {x y : Str} {b : Bool} (h : fa[i]? = some (.exm x y b)) : PySem.W.exmOne K (.ref (He.ga K x)) (.ref (He.ga K y)) = some b := He.exm_ok (W.fact i h)
theorem Wd.mkr (W : Wd K mg base) (i : Nat) {x : Str} (h : fa[i]? = some (.mkr x)) : Mk K (He.ga K x) (He.ma K (He.ga K x) "__init__") := He.mkr_ok (W.fact i h)
end
/-! ### each def keeps its promise -/
section
variable {P : Program} {w : World} {K : PySem.W.Frag} {mg : Str → Option Value} {base : Heap}
theorem sc_law_begun : FnScope N_law_begun P_law_begun (defScope s_law_begun) := ⟨rfl, rfl, rfl, by decide +kernel, rfl, by decide +kernel, by decide +kernel⟩
theorem ok_law_begun (W : Wd K mg base) : Can P w K mg base 1 ("_law_begun", none) P_law_begun (sp_law_begun K) := by
  obtain ⟨fd, F⟩ := W.c.def_ 0 (d := d_law_begun) rfl
  refine can_of F (F.bindsN fun _ _ _ _ _ _ us hl => match us, hl with | [_], _ => rfl) sc_law_begun (fun vs H Q E h => by unfold sp_law_begun at h; match vs, h with | [_], _ => rfl) (t_law_begun K) (fun cdv A outer s H E hr => ?_) (pure_law_begun)
  have nd := sc_law_begun.nd
  exact (pss_cons (ps_set (i := 1) nd rfl (Or.inl rfl) pe_int)
    (pss_cons (ps_for (passes_of rfl) rfl (pi_list (pv 0)) (pg_name (i := 2) nd rfl (Or.inl rfl)) (pss_one (ps_set (i := 1) nd rfl (Or.inl rfl) (pe_opC op_mod (pe_opC op_add (pe_op op_add (pe_opC op_mul (pv 1) pe_int) (pe_opC op_mul (pv 2) pe_int)) pe_int) pe_int))))
    (pss_one (ps_ret (pe_lst (pa_cons (pe_callTy1 call_list_of (by rfl) (W.free 0 rfl) (by decide +kernel) (pv 0)) (pa_cons (pe_op op_mul (pv 1) (pe_callTy1 call_int1 (by rfl) (W.free 2 rfl) (by decide +kernel) (pe_cmpRC op_gt (pe_callB1 call_len_seq (by rfl) (W.free 1 rfl) (by decide +kernel) (pv 0)) pe_int (nomark _)))) pa_nil)))))))
theorem sc_law_take : FnScope N_law_take P_law_take (defScope s_law_take) := ⟨rfl, rfl, rfl, by decide +kernel, rfl, by decide +kernel, by decide +kernel⟩
theorem ok_law_take (W : Wd K mg base) : Can P w K mg base 1 ("_law_take", none) P_law_take (sp_law_take K) := by
  obtain ⟨fd, F⟩ := W.c.def_ 1 (d := d_law_take) rfl
  refine can_of F (F.bindsN fun _ _ _ _ _ _ us hl => match us, hl with | [_, _], _ => rfl) sc_law_take (fun vs H Q E h => by unfold sp_law_take at h; match vs, h with | [_, _], _ => rfl) (t_law_take K) (fun cdv A outer s H E hr => ?_) (pure_law_take)
  have nd := sc_law_take.nd
  exact (pss_cons (ps_if (pt_cmpR (opx_eqE (hu_of hr)) (pe_ixC ix_list (pv 0) pe_int (fun _ _ => rfl)) (pe_lst pa_nil) (nomark _)) (pss_cons (ps_asg (pe_opC op_mod (pe_opC op_mul (pe_ixC ix_list (pv 0) pe_int (fun _ _ => rfl)) pe_int) pe_int) (pg_subC (pv 0) pe_int set_list))
    (pss_one (ps_ret (pe_op op_mod (pe_opC op_fdivW (pe_ixC ix_list (pv 0) pe_int (fun _ _ => rfl)) pe_int) (pv 1))))) pss_nil)
    (pss_cons (ps_set (i := 2) nd rfl (Or.inl rfl) (pe_ixC ix_list (pe_ixC ix_list (pv 0) pe_int (fun _ _ => rfl)) pe_int (fun _ _ => rfl)))
    (pss_cons (ps_asg (pe_op op_fdivW (pv 2) (pv 1)) (pg_subC (pe_ixC ix_list (pv 0) pe_int (fun _ _ => rfl)) pe_int set_list))
    (pss_cons (ps_if (PW.pt (pw_or (pt_cmpRC op_eq (pe_ixC ix_list (pe_ixC ix_list (pv 0) pe_int (fun _ _ => rfl)) pe_int (fun _ _ => rfl)) pe_int (nomark _)) (pw_or1 (pt_cmpRC op_eq (pe_ixC ix_list (pe_ixC ix_list (pv 0) pe_int (fun _ _ => rfl)) pe_int (fun _ _ => rfl)) (pe_unN pe_int) (nomark _))))) (pss_one (ps_expr (pe_bm PySem.F.plainAttrs_list PySem.F.slot_list_pop PySem.F.type_list_pop mt_popAt (pe_ixC ix_list (pv 0) pe_int (fun _ _ => rfl)) (pa_consC pe_int pa_nil)))) pss_nil)
    (pss_one (ps_ret (pe_op op_mod (pv 2) (pv 1))))))))
theorem sc_law_kinds : FnScope N_law_kinds P_law_kinds (defScope s_law_kinds) := ⟨rfl, rfl, rfl, by decide +kernel, rfl, by decide +kernel, by decide +kernel⟩
theorem ok_law_kinds (W : Wd K mg base) : Can P w K mg base 2 ("_law_kinds", none) P_law_kinds (sp_law_kinds K) := by
  obtain ⟨fd, F⟩ := W.c.def_ 2 (d := d_law_kinds) rfl
  refine can_of F (F.bindsN fun _ _ _ _ _ _ us hl => match us, hl with | [_], _ => rfl) sc_law_kinds (fun vs H Q E h => by unfold sp_law_kinds at h; match vs, h with | [_], _ => rfl) (t_law_kinds K) (fun cdv A outer s H E hr => ?_) (pure_law_kinds)
  have nd := sc_law_kinds.nd
  exact (pss_one (ps_ret (pe_callTy1 call_tuple_of (by rfl) (W.free 5 rfl) (by decide +kernel) (pe_lc (own := [("_law_k", 1)]) rfl nd (pi_range1 (by rfl) (W.free 4 rfl) (pa_cons (pe_opD op_add pe_int (pe_callC (ok_law_take W) (hr.mono (by decide)) rfl (W.glo 3 rfl) (passes_call (takes_of rfl rfl rfl rfl) (fun _ _ _ _ h => h)) (pa_cons (pv 0) (pa_consC pe_int pa_nil)))) pa_nil)) (blkOk_by (own := [("_law_k", 1)]) (N := N_law_kinds) (sc := defScope s_law_kinds) (by decide +kernel)) (fun _ _ _ _ _ => (pg_name (i := 1) nd rfl (Or.inl rfl))) (fun _ _ _ _ _ => pts_nil) (fun _ _ _ _ _ => (pe_ix ix_list (pe_lst (pa_consC pe_str (pa_consC pe_str pa_nil))) (pe_callC (ok_law_take W) (hr.mono (by decide)) rfl (W.glo 3 rfl) passL (pa_cons (pv 0) (pa_consC pe_int pa_nil))) (fun _ _ => rfl)))))))
theorem sc_law_order : FnScope N_law_order P_law_order (defScope s_law_order) := ⟨rfl, rfl, rfl, by decide +kernel, rfl, by decide +kernel, by decide +kernel⟩
theorem ok_law_order (W : Wd K mg base) : Can P w K mg base 2 ("_law_order", none) P_law_order (sp_law_order K) := by
  obtain ⟨fd, F⟩ := W.c.def_ 3 (d := d_law_order) rfl
  refine can_of F (F.bindsN fun _ _ _ _ _ _ us hl => match us, hl with | [_, _], _ => rfl) sc_law_order (fun vs H Q E h => by unfold sp_law_order at h; match vs, h with | [_, _], _ => rfl) (t_law_order K) (fun cdv A outer s H E hr => ?_) (pure_law_order)
  have nd := sc_law_order.nd
  exact (pss_cons (ps_set (i := 2) nd rfl (Or.inl rfl) (pe_listRg rfl rfl (W.free 0 rfl) (prg_1 rfl (W.free 4 rfl) (pe_callB1 call_len_seq (by rfl) (W.free 1 rfl) (by decide +kernel) (pv 1)))))
    (pss_cons (ps_set (i := 3) nd rfl (Or.inl rfl) (pe_lst pa_nil))
    (pss_cons (ps_for (passes_of rfl) rfl (pi_range1 (by rfl) (W.free 4 rfl) (pa_cons (pe_opD op_add pe_int (pe_callC (ok_law_take W) (hr.mono (by decide)) rfl (W.glo 3 rfl) (passes_call (takes_of rfl rfl rfl rfl) (fun _ _ _ _ h => h)) (pa_cons (pv 0) (pa_cons (pe_callB1 call_len_seq (by rfl) (W.free 1 rfl) (by decide +kernel) (pv 1)) pa_nil)))) pa_nil)) (pg_name (i := 4) nd rfl (Or.inl rfl)) (pss_one (ps_expr (pe_bm PySem.F.plainAttrs_list PySem.F.slot_list_append PySem.F.type_list_append mt_append (pv 3) (pa_cons (pe_tup (pa_cons (pe_bm PySem.F.plainAttrs_list PySem.F.slot_list_pop PySem.F.type_list_pop mt_popAt (pv 2) (pa_cons (pe_callC (ok_law_take W) (hr.mono (by decide)) rfl (W.glo 3 rfl) (passes_call (takes_of rfl rfl rfl rfl) (fun _ _ _ _ h => h)) (pa_cons (pv 0) (pa_cons (pe_callB1 call_len_seq (by rfl) (W.free 1 rfl) (by decide +kernel) (pv 2)) pa_nil))) pa_nil)) (pa_cons (pe_ix ix_list (pe_lst (pa_consC pe_str (pa_consC pe_str pa_nil))) (pe_callC (ok_law_take W) (hr.mono (by decide)) rfl (W.glo 3 rfl) (passes_call (takes_of rfl rfl rfl rfl) (fun _ _ _ _ h => h)) (pa_cons (pv 0) (pa_consC pe_int pa_nil))) (fun _ _ => rfl)) pa_nil))) pa_nil)))))
    (pss_one (ps_ret (pv 3))))))
theorem sc_law_lengths : FnScope N_law_lengths P_law_lengths (defScope s_law_lengths) := ⟨rfl, rfl, rfl, by decide +kernel, rfl, by decide +kernel, by decide +kernel⟩
theorem ok_law_lengths (W : Wd K mg base) : Can P w K mg base 2 ("_law_lengths", none) P_law_lengths (sp_law_lengths K) := by
  obtain ⟨fd, F⟩ := W.c.def_ 4 (d := d_law_lengths) rfl
  refine can_of F (F.bindsN fun _ _ _ _ _ _ us hl => match us, hl with | [_, _], _ => rfl) sc_law_lengths (fun vs H Q E h => by unfold sp_law_lengths at h; match vs, h with | [_, _], _ => rfl) (t_law_lengths K) (fun cdv A outer s H E hr => ?_) (pure_law_lengths)
  have nd := sc_law_lengths.nd
  exact (pss_cons (ps_set (i := 2) nd rfl (Or.inl rfl) (pe_lst pa_nil))
    (pss_cons (ps_for (passes_of rfl) rfl (pi_range1 (by rfl) (W.free 4 rfl) (pa_cons (pe_opD op_add pe_int (pe_callC (ok_law_take W) (hr.mono (by decide)) rfl (W.glo 3 rfl) (passes_call (takes_of rfl rfl rfl rfl) (fun _ _ _ _ h => h)) (pa_cons (pv 0) (pa_cons (pv 1) pa_nil)))) pa_nil)) (pg_name (i := 3) nd rfl (Or.inl rfl)) (pss_cons (ps_set (i := 4) nd rfl (Or.inl rfl) (pe_lst (pa_cons (pe_opD op_add pe_int (pe_callC (ok_law_take W) (hr.mono (by decide)) rfl (W.glo 3 rfl) (passes_call (takes_of rfl rfl rfl rfl) (fun _ _ _ _ h => h)) (pa_cons (pv 0) (pa_consC pe_int pa_nil)))) (pa_cons (pe_opD op_add pe_int (pe_callC (ok_law_take W) (hr.mono (by decide)) rfl (W.glo 3 rfl) (passes_call (takes_of rfl rfl rfl rfl) (fun _ _ _ _ h => h)) (pa_cons (pv 0) (pa_consC pe_int pa_nil)))) (pa_cons (pe_opC op_add (pv 3) pe_int) (pa_cons (pe_opD op_add pe_int (pe_callC (ok_law_take W) (hr.mono (by decide)) rfl (W.glo 3 rfl) (passes_call (takes_of rfl rfl rfl rfl) (fun _ _ _ _ h => h)) (pa_cons (pv 0) (pa_cons (pe_opC op_pow pe_int pe_int) pa_nil)))) (pa_cons (pe_opC op_pow pe_int pe_int) pa_nil)))))))
    (pss_one (ps_expr (pe_bm PySem.F.plainAttrs_list PySem.F.slot_list_append PySem.F.type_list_append mt_append (pv 2) (pa_cons (pe_ix ix_list (pv 4) (pe_ix ix_list (pe_lst (pa_consC pe_int (pa_consC pe_int (pa_consC pe_int (pa_consC pe_int (pa_consC pe_int (pa_consC pe_int pa_nil))))))) (pe_callC (ok_law_take W) (hr.mono (by decide)) rfl (W.glo 3 rfl) (passes_call (takes_of rfl rfl rfl rfl) (fun _ _ _ _ h => h)) (pa_cons (pv 0) (pa_consC pe_int pa_nil))) (fun _ _ => rfl)) (fun _ _ => rfl)) pa_nil))))))
    (pss_one (ps_ret (pv 2)))))
theorem sc_need_kinds : FnScope N_need_kinds P_need_kinds (defScope s_need_kinds) := ⟨rfl, rfl, rfl, by decide +kernel, rfl, by decide +kernel, by decide +kernel⟩
theorem ok_need_kinds (W : Wd K mg base) : Can P w K mg base 1 ("need_kinds", none) P_need_kinds (sp_need_kinds K) := by
  obtain ⟨fd, F⟩ := W.c.def_ 5 (d := d_need_kinds) rfl
  refine can_of F (F.bindsN fun _ _ _ _ _ _ us hl => match us, hl with | [_], _ => rfl) sc_need_kinds (fun vs H Q E h => by unfold sp_need_kinds at h; match vs, h with | [_], _ => rfl) (t_need_kinds K) (fun cdv A outer s H E hr => ?_) (pure_need_kinds)
  have nd := sc_need_kinds.nd
  exact (pss_one (ps_if (PW.pt (pw_or (pt_not (pt_chain op_le op_le pe_int (pe_callB1 call_len_seq (by rfl) (W.free 1 rfl) (by decide +kernel) (pv 0)) (pe_gint rfl (W.int 6 rfl)))) (pw_or1 (pt_cmpR (opx_neE (hu_of hr)) (pe_lc (own := [("kind", 1)]) rfl nd (pi_tup (pv 0)) (blkOk_by (own := [("kind", 1)]) (N := N_need_kinds) (sc := defScope s_need_kinds) (by decide +kernel)) (fun _ _ _ _ _ => (pg_name (i := 1) nd rfl (Or.inl rfl))) (fun _ _ _ _ _ => (pts_one (pt_cmpR op_notIn_seq (pv 1) (pe_tup (pa_consC (pe_gstr rfl (W.str 7 rfl)) (pa_consC (pe_gstr rfl (W.str 8 rfl)) pa_nil))) (by rfl)))) (fun _ _ _ _ _ => (pv 1))) (pe_lst pa_nil) (nomark _))))) (pss_one ps_never) pss_nil))
theorem sc_is_turnX : FnScope N_is_turnX P_is_turnX (defScope s_is_turnX) := ⟨rfl, rfl, rfl, by decide +kernel, rfl, by decide +kernel, by decide +kernel⟩
theorem ok_is_turnX (W : Wd K mg base) : Can P w K mg base 1 ("is_turn", none) P_is_turnX (sp_is_turnX K) := by
  obtain ⟨fd, F⟩ := W.c.def_ 6 (d := d_is_turnX) rfl
  refine can_of F (F.bindsN fun _ _ _ _ _ _ us hl => match us, hl with | [_, _], _ => rfl) sc_is_turnX (fun vs H Q E h => by unfold sp_is_turnX at h; match vs, h with | [_, _], _ => rfl) (t_is_turnX K) (fun cdv A outer s H E hr => ?_) (pure_is_turnX)
  have nd := sc_is_turnX.nd
  exact (pss_one (ps_ret (pe_and (pe_cmpRC op_eq (pe_callB1 call_len_seq (by rfl) (W.free 1 rfl) (by decide +kernel) (pv 1)) pe_int (nomark _)) (pe_and (pe_chain op_le op_lt pe_int (pe_ixC ix_tup (pv 1) pe_int (fun _ _ => rfl)) (pe_callB1 call_len_seq (by rfl) (W.free 1 rfl) (by decide +kernel) (pv 0))) (pe_one (pe_cmpR op_in_seq (pe_ixC ix_tup (pv 1) pe_int (fun _ _ => rfl)) (pe_tup (pa_consC (pe_gstr rfl (W.str 9 rfl)) (pa_consC (pe_gstr rfl (W.str 10 rfl)) pa_nil))) (by rfl)))))))
theorem sc_need_orderX : FnScope N_need_orderX P_need_orderX (defScope s_need_orderX) := ⟨rfl, rfl, rfl, by decide +kernel, rfl, by decide +kernel, by decide +kernel⟩
theorem ok_need_orderX (W : Wd K mg base) : Can P w K mg base 2 ("need_order", none) P_need_orderX (sp_need_orderX K) := by
  obtain ⟨fd, F⟩ := W.c.def_ 7 (d := d_need_orderX) rfl
  refine can_of F (F.bindsN fun _ _ _ _ _ _ us hl => match us, hl with | [_, _], _ => rfl) sc_need_orderX (fun vs H Q E h => by unfold sp_need_orderX at h; match vs, h with | [_, _], _ => rfl) (t_need_orderX K) (fun cdv A outer s H E hr => ?_) (pure_need_orderX)
  have nd := sc_need_orderX.nd
  exact (pss_cons (ps_setLc (i := 2) (own := [("turn", 3)]) rfl nd rfl rfl (sw_true rfl rfl rfl (by decide +kernel)) (pi_list (pv 1)) (blkOk_by (own := [("turn", 3)]) (N := N_need_orderX) (sc := defScope s_need_orderX) (by decide +kernel)) (fun _ _ _ _ _ => (pg_name (i := 3) nd rfl (Or.inl rfl))) (fun _ _ _ _ _ => (pts_one (pt_val (pe_callC (ok_is_turnX W) (hr.mono (by decide)) rfl (W.glo 11 rfl) passL (pa_cons (pv 0) (pa_cons (pv 3) pa_nil)))))) (fun _ _ _ _ _ => (pv 3)))
    (pss_one (ps_if (PW.pt (pw_or (pt_cmpRC op_eq (pe_callB1 call_len_seq (by rfl) (W.free 1 rfl) (by decide +kernel) (pv 2)) pe_int (nomark _)) (pw_or (pt_cmpR op_ne (pe_callB1 call_len_seq (by rfl) (W.free 1 rfl) (by decide +kernel) (pv 2)) (pe_callB1 call_len_seq (by rfl) (W.free 1 rfl) (by decide +kernel) (pv 1)) (nomark _)) (pw_or1 (pt_cmpR op_ne (pe_lenSetX rfl (W.free 1 rfl) rfl (W.free 12 rfl) (pe_lc (own := [("turn", 3)]) rfl nd (pi_list (pv 2)) (blkOk_by (own := [("turn", 3)]) (N := N_need_orderX) (sc := defScope s_need_orderX) (by decide +kernel)) (fun _ _ _ _ _ => (pg_name (i := 3) nd rfl (Or.inl rfl))) (fun _ _ _ _ _ => pts_nil) (fun _ _ _ _ _ => (pe_ixC ix_tup (pv 3) pe_int (fun _ _ => rfl))))) (pe_callB1 call_len_seq (by rfl) (W.free 1 rfl) (by decide +kernel) (pv 2)) (nomark _)))))) (pss_one (ps_raiseE (W.exc 13 rfl) (W.glo 14 rfl) rfl rfl (takes_of rfl rfl rfl rfl))) pss_nil)))
theorem ok_need_order (W : Wd K mg base) : Can P w K mg base 2 ("need_order", none) P_need_orderX (sp_need_order K) := (ok_need_orderX W).imp imp_need_order
theorem sc_written_order : FnScope N_written_order P_written_order (defScope s_written_order) := ⟨rfl, rfl, rfl, by decide +kernel, rfl, by decide +kernel, by decide +kernel⟩
theorem ok_written_order (W : Wd K mg base) : Can P w K mg base 3 ("written_order", none) P_written_order (sp_written_order K) := by
  obtain ⟨fd, F⟩ := W.c.def_ 8 (d := d_written_order) rfl
  refine can_of F (F.bindsN fun _ _ _ _ _ _ us hl => match us, hl with | [_, _], _ => rfl) sc_written_order (fun vs H Q E h => by unfold sp_written_order at h; match vs, h with | [_, _], _ => rfl) (t_written_order K) (fun cdv A outer s H E hr => ?_) (pure_written_order)
  have nd := sc_written_order.nd
  exact (pss_cons (ps_expr (pe_callC (ok_need_kinds W) (hr.mono (by decide)) rfl (W.glo 15 rfl) (passes_call (takes_of rfl rfl rfl rfl) (fun _ _ _ _ h => h)) (pa_cons (pv 0) pa_nil)))
    (pss_cons (ps_expr (pe_callC (ok_need_order W) (hr.mono (by decide)) rfl (W.glo 16 rfl) (passes_call (takes_of rfl rfl rfl rfl) (fun _ _ _ _ h => h)) (pa_cons (pv 0) (pa_cons (pv 1) pa_nil))))
    (pss_one (ps_ret (pe_join pe_str (pe_lc (own := [("column", 2), ("way", 3)]) rfl nd (pi_list (pv 1)) (blkOk_by (own := [("column", 2), ("way", 3)]) (N := N_written_order) (sc := defScope s_written_order) (by decide +kernel)) (fun _ _ _ _ _ => (pg_tup rfl (pgs_cons (pg_name (i := 2) nd rfl (Or.inl rfl)) (pgs_cons (pg_name (i := 3) nd rfl (Or.inl rfl)) pgs_nil)))) (fun _ _ _ _ _ => pts_nil) (fun _ _ _ _ _ => (pe_op op_add_str (pe_opC op_add_str (pe_callTy1 call_str_int (by rfl) (W.free 17 rfl) (by decide +kernel) (pv 2)) pe_str) (pv 3)))))))))
theorem sc_need_lengths : FnScope N_need_lengths P_need_lengths (defScope s_need_lengths) := ⟨rfl, rfl, rfl, by decide +kernel, rfl, by decide +kernel, by decide +kernel⟩
theorem ok_need_lengths (W : Wd K mg base) : Can P w K mg base 1 ("need_lengths", none) P_need_lengths (sp_need_lengths K) := by
  obtain ⟨fd, F⟩ := W.c.def_ 9 (d := d_need_lengths) rfl
  refine can_of F (F.bindsN fun _ _ _ _ _ _ us hl => match us, hl with | [_], _ => rfl) sc_need_lengths (fun vs H Q E h => by unfold sp_need_lengths at h; match vs, h with | [_], _ => rfl) (t_need_lengths K) (fun cdv A outer s H E hr => ?_) (pure_need_lengths)
  have nd := sc_need_lengths.nd
  exact (pss_cons (ps_if (pt_not (pt_chain op_le op_le pe_int (pe_callB1 call_len_seq (by rfl) (W.free 1 rfl) (by decide +kernel) (pv 0)) (pe_gint rfl (W.int 18 rfl)))) (pss_one ps_never) pss_nil)
    (pss_one (ps_if (pt_cmpR (opx_neE (hu_of hr)) (pe_lc (own := [("length", 1)]) rfl nd (pi_list (pv 0)) (blkOk_by (own := [("length", 1)]) (N := N_need_lengths) (sc := defScope s_need_lengths) (by decide +kernel)) (fun _ _ _ _ _ => (pg_name (i := 1) nd rfl (Or.inl rfl))) (fun _ _ _ _ _ => (pts_one (pt_not (pt_chain op_le op_le pe_int (pv 1) (pe_gint rfl (W.int 19 rfl)))))) (fun _ _ _ _ _ => (pv 1))) (pe_lst pa_nil) (nomark _)) (pss_one ps_never) pss_nil)))
theorem sc_need_ways : FnScope N_need_ways P_need_ways (defScope s_need_ways) := ⟨rfl, rfl, rfl, by decide +kernel, rfl, by decide +kernel, by decide +kernel⟩
theorem ok_need_ways (W : Wd K mg base) : Can P w K mg base 1 ("need_ways", none) P_need_ways (sp_need_ways K) := by
  obtain ⟨fd, F⟩ := W.c.def_ 10 (d := d_need_ways) rfl
  refine can_of F (F.bindsN fun _ _ _ _ _ _ us hl => match us, hl with | [_], _ => rfl) sc_need_ways (fun vs H Q E h => by unfold sp_need_ways at h; match vs, h with | [_], _ => rfl) (t_need_ways K) (fun cdv A outer s H E hr => ?_) (pure_need_ways)
  have nd := sc_need_ways.nd
  exact (pss_one (ps_if (pt_not (pt_chain op_le op_le (pe_gint rfl (W.int 20 rfl)) (pv 0) (pe_gint rfl (W.int 21 rfl)))) (pss_one ps_never) pss_nil))
theorem sc_runs_in : FnScope N_runs_in P_runs_in (defScope s_runs_in) := ⟨rfl, rfl, rfl, by decide +kernel, rfl, by decide +kernel, by decide +kernel⟩
theorem okr_runs_in (W : Wd K mg base) : ∀ d, Can P w K mg base (0 + d) ("runs_in", none) P_runs_in (spr_runs_in K d) := by
  obtain ⟨fd, F⟩ := W.c.def_ 11 (d := d_runs_in) rfl
  refine can_rec (lev := 0) F (F.bindsN fun _ _ _ _ _ _ us hl => match us, hl with | [_], _ => rfl) sc_runs_in (len_runs_in K) (no_runs_in K) (t_runs_in K) (fun d ih cdv A outer s H E hr => ?_) (fun d => pure_runs_in d)
  have nd := sc_runs_in.nd
  exact (pss_cons (ps_if (pt_not (pt_val (pe_isi (by rfl) (W.free 22 rfl) (pv 0) (pe_bltn (v := .ty "tuple") rfl (W.free 5 rfl) (by decide +kernel) rfl)))) (pss_one (ps_ret (pe_lst (pa_cons (pv 0) pa_nil)))) pss_nil)
    (pss_cons (ps_set (i := 1) nd rfl (Or.inl rfl) (pe_lst pa_nil))
    (pss_cons (ps_for (passes_of rfl) rfl (pi_tup (pv 0)) (pg_name (i := 2) nd rfl (Or.inl rfl)) (pss_one (ps_expr (pe_bm PySem.F.plainAttrs_list PySem.F.slot_list_extend PySem.F.type_list_extend mt_extend (pv 1) (pa_cons (pe_callC ih (hr.mono (by omega)) rfl (W.glo 23 rfl) (passes_call (takes_of rfl rfl rfl rfl) (fun _ _ _ _ h => h)) (pa_cons (pv 2) pa_nil)) pa_nil)))))
    (pss_one (ps_ret (pv 1))))))
theorem ok_runs_in (W : Wd K mg base) : Can P w K mg base 42 ("runs_in", none) P_runs_in (sp_runs_in K) := okr_runs_in W 42
theorem sc_rows_in : FnScope N_rows_in P_rows_in (defScope s_rows_in) := ⟨rfl, rfl, rfl, by decide +kernel, rfl, by decide +kernel, by decide +kernel⟩
theorem ok_rows_in (W : Wd K mg base) : Can P w K mg base 43 ("rows_in", none) P_rows_in (sp_rows_in K) := by
  obtain ⟨fd, F⟩ := W.c.def_ 12 (d := d_rows_in) rfl
  refine can_of F (F.bindsN fun _ _ _ _ _ _ us hl => match us, hl with | [_, _], _ => rfl) sc_rows_in (fun vs H Q E h => by unfold sp_rows_in at h; match vs, h with | [_, _], _ => rfl) (t_rows_in K) (fun cdv A outer s H E hr => ?_) (pure_rows_in)
  have nd := sc_rows_in.nd
  exact (pss_one (ps_ret (pe_callB1 (cr_sum rfl) (by rfl) (W.free 24 rfl) (by decide +kernel) (pe_lc (own := [("run", 2)]) rfl nd (pi_list (pe_callC (ok_runs_in W) (hr.mono (by decide)) rfl (W.glo 23 rfl) (passes_call (takes_of rfl rfl rfl rfl) (fun _ _ _ _ h => h)) (pa_cons (pv 1) pa_nil))) (blkOk_by (own := [("run", 2)]) (N := N_rows_in) (sc := defScope s_rows_in) (by decide +kernel)) (fun _ _ _ _ _ => (pg_name (i := 2) nd rfl (Or.inl rfl))) (fun _ _ _ _ _ => pts_nil) (fun _ _ _ _ _ => (pe_ix ix_list (pv 0) (pv 2) (fun _ _ => rfl)))))))
theorem sc_moved : FnScope N_moved P_moved (defScope s_moved) := ⟨rfl, rfl, rfl, by decide +kernel, rfl, by decide +kernel, by decide +kernel⟩
theorem okr_moved (W : Wd K mg base) : ∀ d, Can P w K mg base (43 + d) ("moved", none) P_moved (spr_moved K d) := by
  obtain ⟨fd, F⟩ := W.c.def_ 13 (d := d_moved) rfl
  refine can_rec (lev := 43) F (F.bindsN fun _ _ _ _ _ _ us hl => match us, hl with | [_, _], _ => rfl) sc_moved (len_moved K) (no_moved K) (t_moved K) (fun d ih cdv A outer s H E hr => ?_) (fun d => pure_moved d)
  have nd := sc_moved.nd
  exact (pss_cons (ps_if (pt_not (pt_val (pe_isi (by rfl) (W.free 22 rfl) (pv 1) (pe_bltn (v := .ty "tuple") rfl (W.free 5 rfl) (by decide +kernel) rfl)))) (pss_one (ps_ret pe_int)) pss_nil)
    (pss_one (ps_ret (pe_op op_add (pe_callC (ok_rows_in W) (hr.mono (by omega)) rfl (W.glo 25 rfl) (passes_call (takes_of rfl rfl rfl rfl) (fun _ _ _ _ h => h)) (pa_cons (pv 0) (pa_cons (pv 1) pa_nil))) (pe_callB1 (cr_sum rfl) (by rfl) (W.free 24 rfl) (by decide +kernel) (pe_lc (own := [("part", 2)]) rfl nd (pi_tup (pv 1)) (blkOk_by (own := [("part", 2)]) (N := N_moved) (sc := defScope s_moved) (by decide +kernel)) (fun _ _ _ _ _ => (pg_name (i := 2) nd rfl (Or.inl rfl))) (fun _ _ _ _ _ => pts_nil) (fun _ _ _ _ _ => (pe_callC ih (hr.mono (by omega)) rfl (W.glo 26 rfl) passL (pa_cons (pv 0) (pa_cons (pv 2) pa_nil))))))))))
theorem ok_moved (W : Wd K mg base) : Can P w K mg base 85 ("moved", none) P_moved (sp_moved K) := okr_moved W 42
theorem sc_are_merges : FnScope N_are_merges P_are_merges (defScope s_are_merges) := ⟨rfl, rfl, rfl, by decide +kernel, rfl, by decide +kernel, by decide +kernel⟩
theorem okr_are_merges (W : Wd K mg base) : ∀ d, Can P w K mg base (0 + d) ("are_merges", none) P_are_merges (spr_are_merges K d) := by
  obtain ⟨fd, F⟩ := W.c.def_ 14 (d := d_are_merges) rfl
  refine can_rec (lev := 0) F (F.bindsN fun _ _ _ _ _ _ us hl => match us, hl with | [_, _], _ => rfl) sc_are_merges (len_are_merges K) (no_are_merges K) (t_are_merges K) (fun d ih cdv A outer s H E hr => ?_) (fun d => pure_are_merges d)
  have nd := sc_are_merges.nd
  exact (pss_cons (ps_if (pt_not (pt_val (pe_isi (by rfl) (W.free 22 rfl) (pv 0) (pe_bltn (v := .ty "tuple") rfl (W.free 5 rfl) (by decide +kernel) rfl)))) (pss_one (ps_ret pe_bl)) pss_nil)
    (pss_one (ps_ret (pe_and (pe_chain op_le op_le (pe_gint rfl (W.int 20 rfl)) (pe_callB1 call_len_seq (by rfl) (W.free 1 rfl) (by decide +kernel) (pv 0)) (pv 1)) (pe_one (pe_cmpR (opx_eqE (hu_of hr)) (pe_lc (own := [("part", 2)]) rfl nd (pi_tup (pv 0)) (blkOk_by (own := [("part", 2)]) (N := N_are_merges) (sc := defScope s_are_merges) (by decide +kernel)) (fun _ _ _ _ _ => (pg_name (i := 2) nd rfl (Or.inl rfl))) (fun _ _ _ _ _ => (pts_one (pt_not (pt_val (pe_callC ih (hr.mono (by omega)) rfl (W.glo 27 rfl) passL (pa_cons (pv 2) (pa_cons (pv 1) pa_nil))))))) (fun _ _ _ _ _ => (pv 2))) (pe_lst pa_nil) (nomark _)))))))
theorem ok_are_merges (W : Wd K mg base) : Can P w K mg base 42 ("are_merges", none) P_are_merges (sp_are_merges K) := okr_are_merges W 42
theorem sc_costX : FnScope N_costX P_costX (defScope s_costX) := ⟨rfl, rfl, rfl, by decide +kernel, rfl, by decide +kernel, by decide +kernel⟩
theorem ok_costX (W : Wd K mg base) : Can P w K mg base 86 ("cost", none) P_costX (sp_costX K) := by
  obtain ⟨fd, F⟩ := W.c.def_ 15 (d := d_costX) rfl
  refine can_of F (F.bindsN fun _ _ _ _ _ _ us hl => match us, hl with | [_, _, _], _ => rfl) sc_costX (fun vs H Q E h => by unfold sp_costX at h; match vs, h with | [_, _, _], _ => rfl) (t_costX K) (fun cdv A outer s H E hr => ?_) (pure_costX)
  have nd := sc_costX.nd
  exact (pss_cons (ps_expr (pe_callC (ok_need_lengths W) (hr.mono (by decide)) rfl (W.glo 28 rfl) (passes_call (takes_of rfl rfl rfl rfl) (fun _ _ _ _ h => h)) (pa_cons (pv 0) pa_nil)))
    (pss_cons (ps_expr (pe_callC (ok_need_ways W) (hr.mono (by decide)) rfl (W.glo 29 rfl) (passes_call (takes_of rfl rfl rfl rfl) (fun _ _ _ _ h => h)) (pa_cons (pv 1) pa_nil)))
    (pss_cons (ps_if (PW.pt (pw_or (pt_cmpR (op_neD (hu64 hr)) (pe_callB1 cr_sortedI (by rfl) (W.free 30 rfl) (by decide +kernel) (pe_callC (ok_runs_in W) (hr.mono (by decide)) rfl (W.glo 23 rfl) (passes_call (takes_of rfl rfl rfl rfl) (fun _ _ _ _ h => h)) (pa_cons (pv 2) pa_nil))) (pe_listRg rfl rfl (W.free 0 rfl) (prg_1 rfl (W.free 4 rfl) (pe_callB1 call_len_seq (by rfl) (W.free 1 rfl) (by decide +kernel) (pv 0)))) (nomark _)) (pw_or1 (pt_not (pt_val (pe_callC (ok_are_merges W) (hr.mono (by decide)) rfl (W.glo 27 rfl) (passes_call (takes_of rfl rfl rfl rfl) (fun _ _ _ _ h => h)) (pa_cons (pv 2) (pa_cons (pv 1) pa_nil)))))))) (pss_one (ps_raiseE (W.exc 31 rfl) (W.glo 32 rfl) rfl rfl (takes_of rfl rfl rfl rfl))) pss_nil)
    (pss_one (ps_ret (pe_callC (ok_moved W) (hr.mono (by decide)) rfl (W.glo 26 rfl) (passes_call (takes_of rfl rfl rfl rfl) (fun _ _ _ _ h => h)) (pa_cons (pv 0) (pa_cons (pv 2) pa_nil))))))))
theorem ok_cost (W : Wd K mg base) : Can P w K mg base 86 ("cost", none) P_costX (sp_cost K) := (ok_costX W).imp imp_cost
theorem sc_text_of : FnScope N_text_of P_text_of (defScope s_text_of) := ⟨rfl, rfl, rfl, by decide +kernel, rfl, by decide +kernel, by decide +kernel⟩
theorem okr_text_of (W : Wd K mg base) : ∀ d, Can P w K mg base (0 + d) ("text_of", none) P_text_of (spr_text_of K d) := by
  obtain ⟨fd, F⟩ := W.c.def_ 16 (d := d_text_of) rfl
  refine can_rec (lev := 0) F (F.bindsN fun _ _ _ _ _ _ us hl => match us, hl with | [_], _ => rfl) sc_text_of (len_text_of K) (no_text_of K) (t_text_of K) (fun d ih cdv A outer s H E hr => ?_) (fun d => pure_text_of d)
  have nd := sc_text_of.nd
  exact (pss_cons (ps_if (pt_not (pt_val (pe_isi (by rfl) (W.free 22 rfl) (pv 0) (pe_bltn (v := .ty "tuple") rfl (W.free 5 rfl) (by decide +kernel) rfl)))) (pss_one (ps_ret (pe_callTy1 call_str_int (by rfl) (W.free 17 rfl) (by decide +kernel) (pv 0)))) pss_nil)
    (pss_one (ps_ret (pe_opC op_add_str (pe_opD op_add_str pe_str (pe_join pe_str (pe_lc (own := [("part", 1)]) rfl nd (pi_tup (pv 0)) (blkOk_by (own := [("part", 1)]) (N := N_text_of) (sc := defScope s_text_of) (by decide +kernel)) (fun _ _ _ _ _ => (pg_name (i := 1) nd rfl (Or.inl rfl))) (fun _ _ _ _ _ => pts_nil) (fun _ _ _ _ _ => (pe_callC ih (hr.mono (by omega)) rfl (W.glo 33 rfl) passL (pa_cons (pv 1) pa_nil)))))) pe_str))))
theorem ok_text_of (W : Wd K mg base) : Can P w K mg base 42 ("text_of", none) P_text_of (sp_text_of K) := okr_text_of W 42
theorem sc_written_plan : FnScope N_written_plan P_written_plan (defScope s_written_plan) := ⟨rfl, rfl, rfl, by decide +kernel, rfl, by decide +kernel, by decide +kernel⟩
theorem ok_written_plan (W : Wd K mg base) : Can P w K mg base 87 ("written_plan", none) P_written_plan (sp_written_plan K) := by
  obtain ⟨fd, F⟩ := W.c.def_ 17 (d := d_written_plan) rfl
  refine can_of F (F.bindsN fun _ _ _ _ _ _ us hl => match us, hl with | [_, _, _], _ => rfl) sc_written_plan (fun vs H Q E h => by unfold sp_written_plan at h; match vs, h with | [_, _, _], _ => rfl) (t_written_plan K) (fun cdv A outer s H E hr => ?_) (pure_written_plan)
  have nd := sc_written_plan.nd
  exact (pss_cons (ps_expr (pe_callC (ok_cost W) (hr.mono (by decide)) rfl (W.glo 34 rfl) (passes_call (takes_of rfl rfl rfl rfl) (fun _ _ _ _ h => h)) (pa_cons (pv 0) (pa_cons (pv 1) (pa_cons (pv 2) pa_nil)))))
    (pss_one (ps_ret (pe_callC (ok_text_of W) (hr.mono (by decide)) rfl (W.glo 33 rfl) (passes_call (takes_of rfl rfl rfl rfl) (fun _ _ _ _ h => h)) (pa_cons (pv 2) pa_nil)))))
theorem sc_law_plan : FnScope N_law_plan P_law_plan (defScope s_law_plan) := ⟨rfl, rfl, rfl, by decide +kernel, rfl, by decide +kernel, by decide +kernel⟩
theorem ok_law_plan (W : Wd K mg base) : Can P w K mg base 2 ("_law_plan", none) P_law_plan (sp_law_plan K) := by
  obtain ⟨fd, F⟩ := W.c.def_ 18 (d := d_law_plan) rfl
  refine can_of F (F.bindsN fun _ _ _ _ _ _ us hl => match us, hl with | [_, _, _], _ => rfl) sc_law_plan (fun vs H Q E h => by unfold sp_law_plan at h; match vs, h with | [_, _, _], _ => rfl) (t_law_plan K) (fun cdv A outer s H E hr => ?_) (pure_law_plan)
  have nd := sc_law_plan.nd
  exact (pss_cons (ps_set (i := 3) nd rfl (Or.inr rfl) (pe_callTy1 call_list_of (by rfl) (W.free 0 rfl) (by decide +kernel) (pv 1)))
    (pss_cons (ps_while (passes_of rfl) (pt_cmpRC op_gt (pe_callB1 call_len_seq (by rfl) (W.free 1 rfl) (by decide +kernel) (pv 3)) pe_int (nomark _)) (pss_cons (ps_set (i := 4) nd rfl (Or.inl rfl) (pe_callB (call_min2 rfl) (by rfl) (W.free 35 rfl) (by decide +kernel) (pa_cons (pe_callB1 call_len_seq (by rfl) (W.free 1 rfl) (by decide +kernel) (pv 3)) (pa_cons (pe_opD op_add pe_int (pe_callC (ok_law_take W) (hr.mono (by decide)) rfl (W.glo 3 rfl) (passes_call (takes_of rfl rfl rfl rfl) (fun _ _ _ _ h => h)) (pa_cons (pv 0) (pa_cons (pe_opC op_sub (pv 2) pe_int) pa_nil)))) pa_nil))))
    (pss_cons (ps_setLc (i := 5) (own := [("_law_k", 6)]) rfl nd rfl rfl (sw_true rfl rfl rfl (by decide +kernel)) (pi_range1 (by rfl) (W.free 4 rfl) (pa_cons (pv 4) pa_nil)) (blkOk_by (own := [("_law_k", 6)]) (N := N_law_plan) (sc := defScope s_law_plan) (by decide +kernel)) (fun _ _ _ _ _ => (pg_name (i := 6) nd rfl (Or.inl rfl))) (fun _ _ _ _ _ => pts_nil) (fun _ _ _ _ _ => (pe_bm PySem.F.plainAttrs_list PySem.F.slot_list_pop PySem.F.type_list_pop mt_popAt (pv 3) (pa_cons (pe_callC (ok_law_take W) (hr.mono (by decide)) rfl (W.glo 3 rfl) passL (pa_cons (pv 0) (pa_cons (pe_callB1 call_len_seq (by rfl) (W.free 1 rfl) (by decide +kernel) (pv 3)) pa_nil))) pa_nil))))
    (pss_one (ps_expr (pe_bm PySem.F.plainAttrs_list PySem.F.slot_list_insert PySem.F.type_list_insert mt_insert (pv 3) (pa_cons (pe_callC (ok_law_take W) (hr.mono (by decide)) rfl (W.glo 3 rfl) (passes_call (takes_of rfl rfl rfl rfl) (fun _ _ _ _ h => h)) (pa_cons (pv 0) (pa_cons (pe_opC op_add (pe_callB1 call_len_seq (by rfl) (W.free 1 rfl) (by decide +kernel) (pv 3)) pe_int) pa_nil))) (pa_cons (pe_callTy1 call_tuple_of (by rfl) (W.free 5 rfl) (by decide +kernel) (pv 5)) pa_nil))))))))
    (pss_one (ps_ret (pe_ixC ix_list (pv 3) pe_int (fun _ _ => rfl))))))
theorem sc_law_number : FnScope N_law_number P_law_number (defScope s_law_number) := ⟨rfl, rfl, rfl, by decide +kernel, rfl, by decide +kernel, by decide +kernel⟩
theorem ok_law_number (W : Wd K mg base) : Can P w K mg base 1 ("_law_number", none) P_law_number (sp_law_number K) := by
  obtain ⟨fd, F⟩ := W.c.def_ 19 (d := d_law_number) rfl
  refine can_of F (F.bindsN fun _ _ _ _ _ _ us hl => match us, hl with | [_], _ => rfl) sc_law_number (fun vs H Q E h => by unfold sp_law_number at h; match vs, h with | [_], _ => rfl) (t_law_number K) (fun cdv A outer s H E hr => ?_) (pure_law_number)
  have nd := sc_law_number.nd
  exact (pss_cons (ps_setLc (i := 1) (own := [("_law_number_here", 2)]) rfl nd rfl rfl (sw_true rfl rfl rfl (by decide +kernel)) (pi_range1 (by rfl) (W.free 4 rfl) (pa_consC pe_int pa_nil)) (blkOk_by (own := [("_law_number_here", 2)]) (N := N_law_number) (sc := defScope s_law_number) (by decide +kernel)) (fun _ _ _ _ _ => (pg_name (i := 2) nd rfl (Or.inl rfl))) (fun _ _ _ _ _ => (pts_one (pt_cmpR op_eq (pe_callTy1 call_str_int (by rfl) (W.free 17 rfl) (by decide +kernel) (pv 2)) (pv 0) (nomark _)))) (fun _ _ _ _ _ => (pv 2)))
    (pss_one (ps_ret (pe_ifExp (pt_cmpR (opx_neE (hu_of hr)) (pv 1) (pe_lst pa_nil) (nomark _)) (pe_ixC ix_list (pv 1) pe_int (fun _ _ => rfl)) pe_non))))
theorem sc_law_order_due : FnScope N_law_order_due P_law_order_due (defScope s_law_order_due) := ⟨rfl, rfl, rfl, by decide +kernel, rfl, by decide +kernel, by decide +kernel⟩
theorem ok_law_order_due (W : Wd K mg base) : Can P w K mg base 2 ("_law_order_due", none) P_law_order_due (sp_law_order_due K) := by
  obtain ⟨fd, F⟩ := W.c.def_ 20 (d := d_law_order_due) rfl
  refine can_of F (F.bindsN fun _ _ _ _ _ _ us hl => match us, hl with | [_, _], _ => rfl) sc_law_order_due (fun vs H Q E h => by unfold sp_law_order_due at h; match vs, h with | [_, _], _ => rfl) (t_law_order_due K) (fun cdv A outer s H E hr => ?_) (pure_law_order_due)
  have nd := sc_law_order_due.nd
  exact (pss_cons (ps_set (i := 2) nd rfl (Or.inl rfl) (pe_lst pa_nil))
    (pss_cons (ps_for (passes_of rfl) rfl (pi_enum (by rfl) (W.free 36 rfl) (pa_cons (pe_split (pv 1) pe_str) pa_nil)) (pg_tup rfl (pgs_cons (pg_name (i := 3) nd rfl (Or.inl rfl)) (pgs_cons (pg_name (i := 4) nd rfl (Or.inl rfl)) pgs_nil))) (pss_cons (ps_set (i := 5) nd rfl (Or.inl rfl) (pe_split (pv 4) pe_str))
    (pss_cons (ps_if (PW.pt (pw_or (pt_cmpRC op_ne (pe_callB1 call_len_seq (by rfl) (W.free 1 rfl) (by decide +kernel) (pv 5)) pe_int (nomark _)) (pw_or (pt_cmpRC op_isN1 (pe_callC (ok_law_number W) (hr.mono (by decide)) rfl (W.glo 37 rfl) (passes_call (takes_of rfl rfl rfl rfl) (fun _ _ _ _ h => h)) (pa_cons (pe_ixC ix_list (pv 5) pe_int (fun _ _ => rfl)) pa_nil)) pe_non (nomark _)) (pw_or1 (pt_cmpR op_notIn_seq (pe_ixC ix_list (pv 5) pe_int (fun _ _ => rfl)) (pe_tup (pa_consC pe_str (pa_consC pe_str pa_nil))) (by rfl)))))) (pss_one (ps_ret (pe_tup (pa_consC pe_str (pa_cons (pv 3) pa_nil))))) pss_nil)
    (pss_one (ps_expr (pe_bm PySem.F.plainAttrs_list PySem.F.slot_list_append PySem.F.type_list_append mt_append (pv 2) (pa_cons (pe_tup (pa_cons (pe_callC (ok_law_number W) (hr.mono (by decide)) rfl (W.glo 37 rfl) (passes_call (takes_of rfl rfl rfl rfl) (fun _ _ _ _ h => h)) (pa_cons (pe_ixC ix_list (pv 5) pe_int (fun _ _ => rfl)) pa_nil)) (pa_cons (pe_ixC ix_list (pv 5) pe_int (fun _ _ => rfl)) pa_nil))) pa_nil)))))))
    (pss_cons (ps_setLc (i := 6) (own := [("_law_column", 8), ("_law_way", 9)]) rfl nd rfl rfl (sw_true rfl rfl rfl (by decide +kernel)) (pi_list (pv 2)) (blkOk_by (own := [("_law_column", 8), ("_law_way", 9)]) (N := N_law_order_due) (sc := defScope s_law_order_due) (by decide +kernel)) (fun _ _ _ _ _ => (pg_tup rfl (pgs_cons (pg_name (i := 8) nd rfl (Or.inl rfl)) (pgs_cons (pg_name (i := 9) nd rfl (Or.inl rfl)) pgs_nil)))) (fun _ _ _ _ _ => pts_nil) (fun _ _ _ _ _ => (pv 8)))
    (pss_cons (ps_set (i := 7) nd rfl (Or.inl rfl) (pe_and (pe_cmpR op_lt (pe_callB1 (cr_max rfl) (by rfl) (W.free 38 rfl) (by decide +kernel) (pv 6)) (pe_callB1 call_len_seq (by rfl) (W.free 1 rfl) (by decide +kernel) (pv 0)) (nomark _)) (pe_one (pe_cmpR op_eq (pe_lenSetX rfl (W.free 1 rfl) rfl (W.free 12 rfl) (pv 6)) (pe_callB1 call_len_seq (by rfl) (W.free 1 rfl) (by decide +kernel) (pv 6)) (nomark _)))))
    (pss_one (ps_ret (pe_ifExp (pt_val (pv 7)) (pv 2) (pe_tup (pa_consC pe_str (pa_consC pe_int pa_nil))))))))))
theorem sc_law_fits : FnScope N_law_fits P_law_fits (defScope s_law_fits) := ⟨rfl, rfl, rfl, by decide +kernel, rfl, by decide +kernel, by decide +kernel⟩
theorem okr_law_fits (W : Wd K mg base) : ∀ d, Can P w K mg base (0 + d) ("_law_fits", none) P_law_fits (spr_law_fits K d) := by
  obtain ⟨fd, F⟩ := W.c.def_ 21 (d := d_law_fits) rfl
  refine can_rec (lev := 0) F (F.bindsN fun _ _ _ _ _ _ us hl => match us, hl with | [_, _], _ => rfl) sc_law_fits (len_law_fits K) (no_law_fits K) (t_law_fits K) (fun d ih cdv A outer s H E hr => ?_) (fun d => pure_law_fits d)
  have nd := sc_law_fits.nd
  exact (pss_cons (ps_if (pt_not (pt_val (pe_isi (by rfl) (W.free 22 rfl) (pv 0) (pe_bltn (v := .ty "tuple") rfl (W.free 5 rfl) (by decide +kernel) rfl)))) (pss_one (ps_ret pe_bl)) pss_nil)
    (pss_cons (ps_setLc (i := 2) (own := [("_law_part", 3)]) rfl nd rfl rfl (sw_true rfl rfl rfl (by decide +kernel)) (pi_tup (pv 0)) (blkOk_by (own := [("_law_part", 3)]) (N := N_law_fits) (sc := defScope s_law_fits) (by decide +kernel)) (fun _ _ _ _ _ => (pg_name (i := 3) nd rfl (Or.inl rfl))) (fun _ _ _ _ _ => (pts_one (pt_not (pt_val (pe_callC ih (hr.mono (by omega)) rfl (W.glo 39 rfl) passL (pa_cons (pv 3) (pa_cons (pv 1) pa_nil))))))) (fun _ _ _ _ _ => (pv 3)))
    (pss_one (ps_ret (pe_and (pe_chain op_le op_le pe_int (pe_callB1 call_len_seq (by rfl) (W.free 1 rfl) (by decide +kernel) (pv 0)) (pv 1)) (pe_one (pe_cmpR (opx_eqE (hu_of hr)) (pv 2) (pe_lst pa_nil) (nomark _))))))))
theorem ok_law_fits (W : Wd K mg base) : Can P w K mg base 42 ("_law_fits", none) P_law_fits (sp_law_fits K) := okr_law_fits W 42
theorem sc_law_in : FnScope N_law_in P_law_in (defScope s_law_in) := ⟨rfl, rfl, rfl, by decide +kernel, rfl, by decide +kernel, by decide +kernel⟩
theorem okr_law_in (W : Wd K mg base) : ∀ d, Can P w K mg base (0 + d) ("_law_in", none) P_law_in (spr_law_in K d) := by
  obtain ⟨fd, F⟩ := W.c.def_ 22 (d := d_law_in) rfl
  refine can_rec (lev := 0) F (F.bindsN fun _ _ _ _ _ _ us hl => match us, hl with | [_], _ => rfl) sc_law_in (len_law_in K) (no_law_in K) (t_law_in K) (fun d ih cdv A outer s H E hr => ?_) (fun d => pure_law_in d)
  have nd := sc_law_in.nd
  exact (pss_cons (ps_if (pt_not (pt_val (pe_isi (by rfl) (W.free 22 rfl) (pv 0) (pe_bltn (v := .ty "tuple") rfl (W.free 5 rfl) (by decide +kernel) rfl)))) (pss_one (ps_ret (pe_lst (pa_cons (pv 0) pa_nil)))) pss_nil)
    (pss_cons (ps_set (i := 1) nd rfl (Or.inl rfl) (pe_lst pa_nil))
    (pss_cons (ps_for (passes_of rfl) rfl (pi_tup (pv 0)) (pg_name (i := 2) nd rfl (Or.inl rfl)) (pss_one (ps_expr (pe_bm PySem.F.plainAttrs_list PySem.F.slot_list_extend PySem.F.type_list_extend mt_extend (pv 1) (pa_cons (pe_callC ih (hr.mono (by omega)) rfl (W.glo 40 rfl) (passes_call (takes_of rfl rfl rfl rfl) (fun _ _ _ _ h => h)) (pa_cons (pv 2) pa_nil)) pa_nil)))))
    (pss_one (ps_ret (pv 1))))))
theorem ok_law_in (W : Wd K mg base) : Can P w K mg base 42 ("_law_in", none) P_law_in (sp_law_in K) := okr_law_in W 42
theorem sc_law_plan_due : FnScope N_law_plan_due P_law_plan_due (defScope s_law_plan_due) := ⟨rfl, rfl, rfl, by decide +kernel, rfl, by decide +kernel, by decide +kernel⟩
theorem ok_law_plan_due (W : Wd K mg base) : Can P w K mg base 43 ("_law_plan_due", none) P_law_plan_due (sp_law_plan_due K) := by
  obtain ⟨fd, F⟩ := W.c.def_ 23 (d := d_law_plan_due) rfl
  refine can_of F (F.bindsN fun _ _ _ _ _ _ us hl => match us, hl with | [_, _, _], _ => rfl) sc_law_plan_due (fun vs H Q E h => by unfold sp_law_plan_due at h; match vs, h with | [_, _, _], _ => rfl) (t_law_plan_due K) (fun cdv A outer s H E hr => ?_) (pure_law_plan_due)
  have nd := sc_law_plan_due.nd
  exact (pss_cons (ps_set (i := 3) nd rfl (Or.inl rfl) (pe_ifExp (pt_cmpRC op_ne (pv 2) pe_str (nomark _)) (pe_split (pv 2) pe_str) (pe_lst pa_nil)))
    (pss_cons (ps_set (i := 4) nd rfl (Or.inl rfl) (pe_lst (pa_cons (pe_lst pa_nil) pa_nil)))
    (pss_cons (ps_for (passes_of rfl) rfl (pi_range1 (by rfl) (W.free 4 rfl) (pa_cons (pe_callB1 call_len_seq (by rfl) (W.free 1 rfl) (by decide +kernel) (pv 3)) pa_nil)) (pg_name (i := 5) nd rfl (Or.inl rfl)) (pss_cons (ps_if (PW.pt (pw_and (pt_cmpRC op_eq (pe_callB1 call_len_seq (by rfl) (W.free 1 rfl) (by decide +kernel) (pv 4)) pe_int (nomark _)) (pw_and1 (pt_cmpR (opx_neE (hu_of hr)) (pe_ixC ix_list (pv 4) pe_int (fun _ _ => rfl)) (pe_lst pa_nil) (nomark _))))) (pss_one (ps_ret (pe_tup (pa_consC pe_str (pa_cons (pv 5) pa_nil))))) pss_nil)
    (pss_one (ps_if (pt_cmpRC op_eq (pe_ix ix_list (pv 3) (pv 5) (fun _ _ => rfl)) pe_str (nomark _)) (pss_one (ps_expr (pe_bm PySem.F.plainAttrs_list PySem.F.slot_list_append PySem.F.type_list_append mt_append (pv 4) (pa_cons (pe_lst pa_nil) pa_nil)))) (pss_one (ps_if (PW.pt (pw_and (pt_cmpRC op_eq (pe_ix ix_list (pv 3) (pv 5) (fun _ _ => rfl)) pe_str (nomark _)) (pw_and (pt_cmpRC op_gt (pe_callB1 call_len_seq (by rfl) (W.free 1 rfl) (by decide +kernel) (pv 4)) pe_int (nomark _)) (pw_and1 (pt_cmpR (opx_neE (hu_of hr)) (pe_ixC ix_list (pv 4) (pe_unN pe_int) (fun _ _ => rfl)) (pe_lst pa_nil) (nomark _)))))) (pss_cons (ps_set (i := 6) nd rfl (Or.inl rfl) (pe_callTy1 call_tuple_of (by rfl) (W.free 5 rfl) (by decide +kernel) (pe_bm0 PySem.F.plainAttrs_list PySem.F.slot_list_pop PySem.F.type_list_pop mt_pop (pv 4))))
    (pss_one (ps_expr (pe_bm PySem.F.plainAttrs_list PySem.F.slot_list_append PySem.F.type_list_append mt_append (pe_ixC ix_list (pv 4) (pe_unN pe_int) (fun _ _ => rfl)) (pa_cons (pv 6) pa_nil))))) (pss_one (ps_if (pt_cmpRC op_notN1 (pe_callC (ok_law_number W) (hr.mono (by decide)) rfl (W.glo 37 rfl) (passes_call (takes_of rfl rfl rfl rfl) (fun _ _ _ _ h => h)) (pa_cons (pe_ix ix_list (pv 3) (pv 5) (fun _ _ => rfl)) pa_nil)) pe_non (nomark _)) (pss_one (ps_expr (pe_bm PySem.F.plainAttrs_list PySem.F.slot_list_append PySem.F.type_list_append mt_append (pe_ixC ix_list (pv 4) (pe_unN pe_int) (fun _ _ => rfl)) (pa_cons (pe_callC (ok_law_number W) (hr.mono (by decide)) rfl (W.glo 37 rfl) (passes_call (takes_of rfl rfl rfl rfl) (fun _ _ _ _ h => h)) (pa_cons (pe_ix ix_list (pv 3) (pv 5) (fun _ _ => rfl)) pa_nil)) pa_nil)))) (pss_one (ps_ret (pe_tup (pa_consC pe_str (pa_cons (pv 5) pa_nil)))))))))))))
    (pss_cons (ps_if (PW.pt (pw_or (pt_cmpRC op_gt (pe_callB1 call_len_seq (by rfl) (W.free 1 rfl) (by decide +kernel) (pv 4)) pe_int (nomark _)) (pw_or1 (pt_cmpR (opx_eqE (hu_of hr)) (pe_ixC ix_list (pv 4) pe_int (fun _ _ => rfl)) (pe_lst pa_nil) (nomark _))))) (pss_one (ps_ret (pe_tup (pa_consC pe_str (pa_cons (pe_callB1 call_len_seq (by rfl) (W.free 1 rfl) (by decide +kernel) (pv 3)) pa_nil))))) pss_nil)
    (pss_cons (ps_set (i := 7) nd rfl (Or.inl rfl) (pe_ixC ix_list (pe_ixC ix_list (pv 4) pe_int (fun _ _ => rfl)) pe_int (fun _ _ => rfl)))
    (pss_cons (ps_set (i := 8) nd rfl (Or.inl rfl) (pe_and (pe_cmpR (op_eqD (hu64 hr)) (pe_callB1 cr_sortedI (by rfl) (W.free 30 rfl) (by decide +kernel) (pe_callC (ok_law_in W) (hr.mono (by decide)) rfl (W.glo 40 rfl) (passes_call (takes_of rfl rfl rfl rfl) (fun _ _ _ _ h => h)) (pa_cons (pv 7) pa_nil))) (pe_listRg rfl rfl (W.free 0 rfl) (prg_1 rfl (W.free 4 rfl) (pv 0))) (nomark _)) (pe_one (pe_callC (ok_law_fits W) (hr.mono (by decide)) rfl (W.glo 39 rfl) (passes_call (takes_of rfl rfl rfl rfl) (fun _ _ _ _ h => h)) (pa_cons (pv 7) (pa_cons (pv 1) pa_nil))))))
    (pss_one (ps_ret (pe_ifExp (pt_val (pv 8)) (pv 7) (pe_tup (pa_consC pe_str (pa_consC pe_int pa_nil))))))))))))
theorem sc_law_spoilt : FnScope N_law_spoilt P_law_spoilt (defScope s_law_spoilt) := ⟨rfl, rfl, rfl, by decide +kernel, rfl, by decide +kernel, by decide +kernel⟩
theorem ok_law_spoilt (W : Wd K mg base) : Can P w K mg base 2 ("_law_spoilt", none) P_law_spoilt (sp_law_spoilt K) := by
  obtain ⟨fd, F⟩ := W.c.def_ 24 (d := d_law_spoilt) rfl
  refine can_of F (F.bindsN fun _ _ _ _ _ _ us hl => match us, hl with | [_, _], _ => rfl) sc_law_spoilt (fun vs H Q E h => by unfold sp_law_spoilt at h; match vs, h with | [_, _], _ => rfl) (t_law_spoilt K) (fun cdv A outer s H E hr => ?_) (pure_law_spoilt)
  have nd := sc_law_spoilt.nd
  exact (pss_cons (ps_set (i := 2) nd rfl (Or.inl rfl) (pe_callC (ok_law_take W) (hr.mono (by decide)) rfl (W.glo 3 rfl) (passes_call (takes_of rfl rfl rfl rfl) (fun _ _ _ _ h => h)) (pa_cons (pv 0) (pa_consC pe_int pa_nil))))
    (pss_cons (ps_set (i := 3) nd rfl (Or.inl rfl) (pe_split (pv 1) pe_str))
    (pss_cons (ps_set (i := 4) nd rfl (Or.inl rfl) (pe_callC (ok_law_take W) (hr.mono (by decide)) rfl (W.glo 3 rfl) (passes_call (takes_of rfl rfl rfl rfl) (fun _ _ _ _ h => h)) (pa_cons (pv 0) (pa_cons (pe_callB1 call_len_seq (by rfl) (W.free 1 rfl) (by decide +kernel) (pv 3)) pa_nil))))
    (pss_cons (ps_set (i := 5) nd rfl (Or.inl rfl) (pe_lst (pa_consC pe_str (pa_consC pe_str (pa_consC pe_str (pa_consC pe_str (pa_consC pe_str (pa_consC pe_str (pa_consC pe_str (pa_consC pe_str (pa_consC pe_str (pa_consC pe_str (pa_consC pe_str (pa_consC pe_str (pa_consC pe_str (pa_consC pe_str (pa_consC pe_str (pa_consC pe_str (pa_consC pe_str pa_nil)))))))))))))))))))
    (pss_cons (ps_if (pt_cmpRC op_lt (pv 2) pe_int (nomark _)) (pss_cons (ps_set (i := 6) nd rfl (Or.inl rfl) (pe_lst (pa_cons (pe_lst pa_nil) (pa_cons (pe_lst (pa_cons (pe_ix ix_list (pv 3) (pv 4) (fun _ _ => rfl)) (pa_cons (pe_ix ix_list (pv 3) (pv 4) (fun _ _ => rfl)) pa_nil))) (pa_cons (pe_lst (pa_cons (pe_ix ix_list (pv 5) (pe_callC (ok_law_take W) (hr.mono (by decide)) rfl (W.glo 3 rfl) (passes_call (takes_of rfl rfl rfl rfl) (fun _ _ _ _ h => h)) (pa_cons (pv 0) (pa_consC pe_int pa_nil))) (fun _ _ => rfl)) pa_nil)) pa_nil)))))
    (pss_one (ps_ret (pe_join pe_str (pe_op op_cat (pe_op op_cat (pe_slice sl_list (pv 3) po_none (po_some (pv 4))) (pe_ix ix_list (pv 6) (pv 2) (fun _ _ => rfl))) (pe_slice sl_list (pv 3) (po_some (pe_opC op_add (pv 4) pe_int)) po_none)))))) pss_nil)
    (pss_cons (ps_set (i := 7) nd rfl (Or.inl rfl) (pe_callC (ok_law_take W) (hr.mono (by decide)) rfl (W.glo 3 rfl) (passes_call (takes_of rfl rfl rfl rfl) (fun _ _ _ _ h => h)) (pa_cons (pv 0) (pa_cons (pe_opC op_add (pe_callB1 call_len_str (by rfl) (W.free 1 rfl) (by decide +kernel) (pv 1)) pe_int) pa_nil))))
    (pss_cons (ps_set (i := 8) nd rfl (Or.inl rfl) pe_str)
    (pss_cons (ps_set (i := 9) nd rfl (Or.inl rfl) (pe_ix ix_list (pe_lst (pa_cons (pe_ix ix_str (pv 8) (pe_callC (ok_law_take W) (hr.mono (by decide)) rfl (W.glo 3 rfl) (passes_call (takes_of rfl rfl rfl rfl) (fun _ _ _ _ h => h)) (pa_cons (pv 0) (pa_cons (pe_callB1 call_len_str (by rfl) (W.free 1 rfl) (by decide +kernel) (pv 8)) pa_nil))) (fun _ _ => rfl)) (pa_consC pe_str (pa_cons (pe_ix ix_str (pv 8) (pe_callC (ok_law_take W) (hr.mono (by decide)) rfl (W.glo 3 rfl) (passes_call (takes_of rfl rfl rfl rfl) (fun _ _ _ _ h => h)) (pa_cons (pv 0) (pa_consC pe_int pa_nil))) (fun _ _ => rfl)) pa_nil)))) (pe_opC op_sub (pv 2) pe_int) (fun _ _ => rfl)))
    (pss_one (ps_ret (pe_op op_add_str (pe_op op_add_str (pe_slice sl_str (pv 1) po_none (po_some (pv 7))) (pv 9)) (pe_slice sl_str (pv 1) (po_some (pe_op op_add (pv 7) (pe_callTy1 call_int1 (by rfl) (W.free 2 rfl) (by decide +kernel) (pe_cmpRC op_gt (pv 2) pe_int (nomark _))))) po_none))))))))))))
theorem sc_law_class : FnScope N_law_class P_law_class (defScope s_law_class) := ⟨rfl, rfl, rfl, by decide +kernel, rfl, by decide +kernel, by decide +kernel⟩
theorem warm_law_class (W : Wd K mg base) : WarmFn P w K mg base "_law_class" N_law_class (t_law_class K) := by
  obtain ⟨fd, F⟩ := W.c.def_ 25 (d := d_law_class) rfl
  refine warm_of F (F.bindsN fun _ _ _ _ _ _ us hl => match us, hl with | [_], _ => rfl) sc_law_class (W.glo 41 rfl) (fun D a d oe C hz hf cdv A outer z H => ?_)
  have nd := sc_law_class.nd
  have hp : (a, oe) ∈ [(a, oe)] := List.mem_cons_self
  exact (pss_cons (ps_set (i := 1) nd rfl (Or.inl rfl) (pe_lst (pa_cons (pe_callB (call_isP C hz hf hp) (by rfl) (W.free 22 rfl) (by decide +kernel) (pa_cons (pv 0) (pa_consC (pe_gref rfl (W.glo 42 rfl)) pa_nil))) (pa_cons (pe_callB (call_isP C hz hf hp) (by rfl) (W.free 22 rfl) (by decide +kernel) (pa_cons (pv 0) (pa_consC (pe_gref rfl (W.glo 14 rfl)) pa_nil))) (pa_cons (pe_callB (call_isP C hz hf hp) (by rfl) (W.free 22 rfl) (by decide +kernel) (pa_cons (pv 0) (pa_consC (pe_gref rfl (W.glo 43 rfl)) pa_nil))) (pa_cons (pe_callB (call_isP C hz hf hp) (by rfl) (W.free 22 rfl) (by decide +kernel) (pa_cons (pv 0) (pa_consC (pe_gref rfl (W.glo 44 rfl)) pa_nil))) pa_nil))))))
    (pss_cons (ps_set (i := 1) nd rfl (Or.inl rfl) (pe_op op_cat (pv 1) (pe_lst (pa_cons (pe_callB (call_isP C hz hf hp) (by rfl) (W.free 22 rfl) (by decide +kernel) (pa_cons (pv 0) (pa_consC (pe_gref rfl (W.glo 45 rfl)) pa_nil))) (pa_cons (pe_callB (call_isP C hz hf hp) (by rfl) (W.free 22 rfl) (by decide +kernel) (pa_cons (pv 0) (pa_consC (pe_gref rfl (W.glo 46 rfl)) pa_nil))) (pa_cons (pe_callB (call_isP C hz hf hp) (by rfl) (W.free 22 rfl) (by decide +kernel) (pa_cons (pv 0) (pa_consC (pe_gref rfl (W.glo 32 rfl)) pa_nil))) (pa_cons (pe_callB (call_isP C hz hf hp) (by rfl) (W.free 22 rfl) (by decide +kernel) (pa_cons (pv 0) (pa_consC (pe_gref rfl (W.glo 47 rfl)) pa_nil))) pa_nil)))))))
    (pss_cons (ps_set (i := 1) nd rfl (Or.inl rfl) (pe_op op_cat (pv 1) (pe_lst (pa_cons (pe_callB (call_isP C hz hf hp) (by rfl) (W.free 22 rfl) (by decide +kernel) (pa_cons (pv 0) (pa_consC (pe_gref rfl (W.glo 48 rfl)) pa_nil))) (pa_cons (pe_callB (call_isP C hz hf hp) (by rfl) (W.free 22 rfl) (by decide +kernel) (pa_cons (pv 0) (pa_consC (pe_gref rfl (W.glo 49 rfl)) pa_nil))) (pa_cons (pe_callB (call_isP C hz hf hp) (by rfl) (W.free 22 rfl) (by decide +kernel) (pa_cons (pv 0) (pa_consC (pe_gref rfl (W.glo 50 rfl)) pa_nil))) (pa_cons (pe_callB (call_isP C hz hf hp) (by rfl) (W.free 22 rfl) (by decide +kernel) (pa_cons (pv 0) (pa_consC (pe_gref rfl (W.glo 51 rfl)) pa_nil))) pa_nil)))))))
    (pss_cons (ps_set (i := 1) nd rfl (Or.inl rfl) (pe_op op_cat (pv 1) (pe_lst (pa_cons (pe_callB (call_isP C hz hf hp) (by rfl) (W.free 22 rfl) (by decide +kernel) (pa_cons (pv 0) (pa_consC (pe_gref rfl (W.glo 52 rfl)) pa_nil))) (pa_cons (pe_callB (call_isP C hz hf hp) (by rfl) (W.free 22 rfl) (by decide +kernel) (pa_cons (pv 0) (pa_consC (pe_gref rfl (W.glo 53 rfl)) pa_nil))) (pa_cons (pe_callB (call_isP C hz hf hp) (by rfl) (W.free 22 rfl) (by decide +kernel) (pa_cons (pv 0) (pa_consC (pe_gref rfl (W.glo 54 rfl)) pa_nil))) pa_nil))))))
    (pss_cons (ps_set (i := 2) nd rfl (Or.inl rfl) (pe_lst (pa_consC pe_str (pa_consC pe_str (pa_consC pe_str (pa_consC pe_str (pa_consC pe_str (pa_consC pe_str (pa_consC pe_str (pa_consC pe_str (pa_consC pe_str pa_nil)))))))))))
    (pss_cons (ps_set (i := 2) nd rfl (Or.inl rfl) (pe_op op_cat (pv 2) (pe_lst (pa_consC pe_str (pa_consC pe_str (pa_consC pe_str (pa_consC pe_str (pa_consC pe_str (pa_consC pe_str pa_nil)))))))))
    (pss_one (ps_ret (pe_ifExp (PW.pt (pw_and (pt_cmpRC op_eq (pe_bm PySem.F.plainAttrs_list PySem.F.slot_list_count PySem.F.type_list_count mt_countF (pv 1) (pa_consC pe_bl pa_nil)) pe_int (nomark _)) (pw_and1 (pt_val (pe_callB (call_isP C hz hf hp) (by rfl) (W.free 22 rfl) (by decide +kernel) (pa_cons (pv 0) (pa_consC (pe_bltn (v := .ty "ValueError") rfl (W.free 55 rfl) (by decide +kernel) rfl) pa_nil))))))) (pe_ix ix_list (pv 2) (pe_bm PySem.F.plainAttrs_list PySem.F.slot_list_index PySem.F.type_list_index mt_index (pv 1) (pa_consC pe_bl pa_nil)) (fun _ _ => rfl)) pe_str)))))))))
theorem sc_law_told : FnScope N_law_told P_law_told (defScope s_law_told) := ⟨rfl, rfl, rfl, by decide +kernel, rfl, by decide +kernel, by decide +kernel⟩
theorem told_law_told (W : Wd K mg base) : ToldFn P w K mg base "_law_told" := by
  obtain ⟨fd, F⟩ := W.c.def_ 26 (d := d_law_told) rfl
  refine told_of F (F.bindsN fun _ _ _ _ _ _ us hl => match us, hl with | [_], _ => rfl) sc_law_told rfl (Or.inl rfl) (W.glo 57 rfl) (by decide) (by decide) (fun cdv X hP hw hK hm hB hr q => ?_)
  subst hP hw hK hm hB
  have nd := sc_law_told.nd
  refine told_does (y := "_law_work") (n := "_law_e") rfl (W.glo 56 rfl) (by decide) nd rfl rfl (fun _ => rfl) (fun s H a oe cls d pn hz hf => ?_) pure_law_told
  exact (pss_cons (ps_set (i := 2) nd rfl (Or.inl rfl) (pe_warmV (k := 0) (warm_law_class W) (room_suite hr) List.mem_cons_self hz hf rfl (pv 1)))
    (pss_cons (ps_if (pt_cmpRC op_eq (pv 2) pe_str (nomark _)) (pss_one (ps_ret (pe_tup (pa_cons (pv 2) (pa_cons (pe_errF hz hf (pv 1)) pa_nil))))) pss_nil)
    (pss_one (ps_ret (pe_tup (pa_cons (pv 2) (pa_cons (pe_ifExp (pt_cmpR op_in_seq (pv 2) (pe_tup (pa_consC pe_str (pa_consC pe_str pa_nil))) (by rfl)) (pe_errF hz hf (pv 1)) pe_int) pa_nil)))))))
theorem sc_law_alike : FnScope N_law_alike P_law_alike (defScope s_law_alike) := ⟨rfl, rfl, rfl, by decide +kernel, rfl, by decide +kernel, by decide +kernel⟩
theorem okr_law_alike (W : Wd K mg base) : ∀ d, Can P w K mg base (0 + d) ("_law_alike", none) P_law_alike (spr_law_alike K d) := by
  obtain ⟨fd, F⟩ := W.c.def_ 27 (d := d_law_alike) rfl
  refine can_rec (lev := 0) F (F.bindsN fun _ _ _ _ _ _ us hl => match us, hl with | [_, _], _ => rfl) sc_law_alike (len_law_alike K) (no_law_alike K) (t_law_alike K) (fun d ih cdv A outer s H E hr => ?_) (fun d => pure_law_alike d)
  have nd := sc_law_alike.nd
  exact (pss_cons (ps_if (pt_cmpRC op_isN1 (pv 1) pe_non (nomark _)) (pss_one (ps_ret (pe_cmpRC op_isN1 (pv 0) pe_non (nomark _)))) pss_nil)
    (pss_cons (ps_if (pt_val (pe_isi (by rfl) (W.free 22 rfl) (pv 1) (pe_bltn (v := .ty "bool") rfl (W.free 58 rfl) (by decide +kernel) rfl))) (pss_one (ps_ret (pe_and (pe_isi (by rfl) (W.free 22 rfl) (pv 0) (pe_bltn (v := .ty "bool") rfl (W.free 58 rfl) (by decide +kernel) rfl)) (pe_one (pe_cmpR op_eq (pv 0) (pv 1) (nomark _)))))) pss_nil)
    (pss_cons (ps_if (pt_val (pe_isi (by rfl) (W.free 22 rfl) (pv 1) (pe_bltn (v := .ty "int") rfl (W.free 2 rfl) (by decide +kernel) rfl))) (pss_one (ps_ret (pe_and (pe_isi (by rfl) (W.free 22 rfl) (pv 0) (pe_bltn (v := .ty "int") rfl (W.free 2 rfl) (by decide +kernel) rfl)) (pe_and (pe_not (pe_isi (by rfl) (W.free 22 rfl) (pv 0) (pe_bltn (v := .ty "bool") rfl (W.free 58 rfl) (by decide +kernel) rfl))) (pe_one (pe_cmpR op_eq (pv 0) (pv 1) (nomark _))))))) pss_nil)
    (pss_cons (ps_if (pt_val (pe_isi (by rfl) (W.free 22 rfl) (pv 1) (pe_bltn (v := .ty "str") rfl (W.free 17 rfl) (by decide +kernel) rfl))) (pss_one (ps_ret (pe_and (pe_isi (by rfl) (W.free 22 rfl) (pv 0) (pe_bltn (v := .ty "str") rfl (W.free 17 rfl) (by decide +kernel) rfl)) (pe_one (pe_cmpR op_eq (pv 0) (pv 1) (nomark _)))))) pss_nil)
    (pss_cons (ps_if (PW.pt (pw_or (pt_cmpR op_ne (pe_isi (by rfl) (W.free 22 rfl) (pv 1) (pe_bltn (v := .ty "tuple") rfl (W.free 5 rfl) (by decide +kernel) rfl)) (pe_isi (by rfl) (W.free 22 rfl) (pv 0) (pe_bltn (v := .ty "tuple") rfl (W.free 5 rfl) (by decide +kernel) rfl)) (nomark _)) (pw_or1 (pt_cmpR op_ne (pe_isi (by rfl) (W.free 22 rfl) (pv 1) (pe_bltn (v := .ty "list") rfl (W.free 0 rfl) (by decide +kernel) rfl)) (pe_isi (by rfl) (W.free 22 rfl) (pv 0) (pe_bltn (v := .ty "list") rfl (W.free 0 rfl) (by decide +kernel) rfl)) (nomark _))))) (pss_one (ps_ret pe_bl)) pss_nil)
    (pss_cons (ps_if (pt_cmpR op_ne (pe_callB1 call_len_seq (by rfl) (W.free 1 rfl) (by decide +kernel) (pv 0)) (pe_callB1 call_len_seq (by rfl) (W.free 1 rfl) (by decide +kernel) (pv 1)) (nomark _)) (pss_one (ps_ret pe_bl)) pss_nil)
    (pss_cons (ps_for (passes_of rfl) rfl (pi_range1 (by rfl) (W.free 4 rfl) (pa_cons (pe_callB1 call_len_seq (by rfl) (W.free 1 rfl) (by decide +kernel) (pv 1)) pa_nil)) (pg_name (i := 2) nd rfl (Or.inl rfl)) (pss_one (ps_if (pt_not (pt_val (pe_callC ih (hr.mono (by omega)) rfl (W.glo 59 rfl) (passes_call (takes_of rfl rfl rfl rfl) (fun _ _ _ _ h => h)) (pa_cons (pe_ix ix_seq (pv 0) (pv 2) (fun _ _ => rfl)) (pa_cons (pe_ix ix_seq (pv 1) (pv 2) (fun _ _ => rfl)) pa_nil))))) (pss_one (ps_ret pe_bl)) pss_nil)))
    (pss_one (ps_ret pe_bl)))))))))
theorem ok_law_alike (W : Wd K mg base) : Can P w K mg base 45 ("_law_alike", none) P_law_alike (sp_law_alike K) := okr_law_alike W 45
theorem sc_number_of : FnScope N_number_of P_number_of (defScope s_number_of) := ⟨rfl, rfl, rfl, by decide +kernel, rfl, by decide +kernel, by decide +kernel⟩
theorem ok_number_of (W : Wd K mg base) : Can P w K mg base 1 ("number_of", none) P_number_of (sp_number_of K) := by
  obtain ⟨fd, F⟩ := W.c.def_ 28 (d := d_number_of) rfl
  refine can_of F (F.bindsN fun _ _ _ _ _ _ us hl => match us, hl with | [_], _ => rfl) sc_number_of (fun vs H Q E h => by unfold sp_number_of at h; match vs, h with | [_], _ => rfl) (t_number_of K) (fun cdv A outer s H E hr => ?_) (pure_number_of)
  have nd := sc_number_of.nd
  exact (pss_cons (ps_if (PW.pt (pw_or (pt_not (pt_chain op_le op_le pe_int (pe_callB1 call_len_str (by rfl) (W.free 1 rfl) (by decide +kernel) (pv 0)) (pe_gint rfl (W.int 60 rfl)))) (pw_or1 (pt_cmpR (opx_neE (hu_of hr)) (pe_lc (own := [("sign", 1)]) rfl nd (pi_str (pv 0)) (blkOk_by (own := [("sign", 1)]) (N := N_number_of) (sc := defScope s_number_of) (by decide +kernel)) (fun _ _ _ _ _ => (pg_name (i := 1) nd rfl (Or.inl rfl))) (fun _ _ _ _ _ => (pts_one (pt_cmpRC op_notInS (pv 1) (pe_gstr rfl (W.str 61 rfl)) (by rfl)))) (fun _ _ _ _ _ => (pv 1))) (pe_lst pa_nil) (nomark _))))) (pss_one (ps_ret pe_non)) pss_nil)
    (pss_one (ps_ret (pe_ifExp (PW.pt (pw_or (pt_cmpRC op_ne (pe_ixC ix_str (pv 0) pe_int (fun _ _ => rfl)) pe_str (nomark _)) (pw_or1 (pt_cmpRC op_eq (pv 0) pe_str (nomark _))))) (pe_callTy1 call_int_str (by rfl) (W.free 2 rfl) (by decide +kernel) (pv 0)) pe_non))))
abbrev N_BadRuns___init__ : List Str := ["self", "number"]
abbrev P_BadRuns___init__ : List Str := ["self", "number"]
theorem sc_BadRuns___init__ : FnScope N_BadRuns___init__ P_BadRuns___init__ (defScope s_BadRuns___init__) := ⟨rfl, rfl, rfl, by decide +kernel, rfl, by decide +kernel, by decide +kernel⟩
theorem ok_BadRuns___init__ (W : Wd K mg base) : Can P w K mg base 1 ("BadRuns", some "__init__") P_BadRuns___init__ (sp_einit K "number") := by
  obtain ⟨fd, F⟩ := W.c.def_ 29 (d := d_BadRuns___init__) rfl
  refine can_of F (F.bindsN fun _ _ _ _ _ _ us hl => match us, hl with | [_, _], _ => rfl) sc_BadRuns___init__ (fun vs H Q E h => by unfold sp_einit at h; match vs, h with | [_, _], _ => rfl) (fun _ => t_einit K "number" "no runs") (fun cdv A outer s H E hr => ?_) (pure_einit rfl)
  have nd := sc_BadRuns___init__.nd
  exact (pss_cons (ps_expr (pe_binit (W.em 0 rfl).base rfl (W.glo 56 rfl) (pa_cons (pv 0) (pa_consC pe_str pa_nil))))
    (pss_one (ps_ost (pv 0) (pv 1))))
abbrev N_BadRows___init__ : List Str := ["self", "place"]
abbrev P_BadRows___init__ : List Str := ["self", "place"]
theorem sc_BadRows___init__ : FnScope N_BadRows___init__ P_BadRows___init__ (defScope s_BadRows___init__) := ⟨rfl, rfl, rfl, by decide +kernel, rfl, by decide +kernel, by decide +kernel⟩
theorem ok_BadRows___init__ (W : Wd K mg base) : Can P w K mg base 1 ("BadRows", some "__init__") P_BadRows___init__ (sp_einit K "place") := by
  obtain ⟨fd, F⟩ := W.c.def_ 30 (d := d_BadRows___init__) rfl
  refine can_of F (F.bindsN fun _ _ _ _ _ _ us hl => match us, hl with | [_, _], _ => rfl) sc_BadRows___init__ (fun vs H Q E h => by unfold sp_einit at h; match vs, h with | [_, _], _ => rfl) (fun _ => t_einit K "place" "no rows") (fun cdv A outer s H E hr => ?_) (pure_einit rfl)
  have nd := sc_BadRows___init__.nd
  exact (pss_cons (ps_expr (pe_binit (W.em 1 rfl).base rfl (W.glo 56 rfl) (pa_cons (pv 0) (pa_consC pe_str pa_nil))))
    (pss_one (ps_ost (pv 0) (pv 1))))
abbrev N_BadText___init__ : List Str := ["self", "place"]
abbrev P_BadText___init__ : List Str := ["self", "place"]
theorem sc_BadText___init__ : FnScope N_BadText___init__ P_BadText___init__ (defScope s_BadText___init__) := ⟨rfl, rfl, rfl, by decide +kernel, rfl, by decide +kernel, by decide +kernel⟩
theorem ok_BadText___init__ (W : Wd K mg base) : Can P w K mg base 1 ("BadText", some "__init__") P_BadText___init__ (sp_einit K "place") := by
  obtain ⟨fd, F⟩ := W.c.def_ 31 (d := d_BadText___init__) rfl
  refine can_of F (F.bindsN fun _ _ _ _ _ _ us hl => match us, hl with | [_, _], _ => rfl) sc_BadText___init__ (fun vs H Q E h => by unfold sp_einit at h; match vs, h with | [_, _], _ => rfl) (fun _ => t_einit K "place" "a bad word") (fun cdv A outer s H E hr => ?_) (pure_einit rfl)
  have nd := sc_BadText___init__.nd
  exact (pss_cons (ps_expr (pe_binit (W.em 2 rfl).base rfl (W.glo 56 rfl) (pa_cons (pv 0) (pa_consC pe_str pa_nil))))
    (pss_one (ps_ost (pv 0) (pv 1))))
theorem sc_read_orderX : FnScope N_read_orderX P_read_orderX (defScope s_read_orderX) := ⟨rfl, rfl, rfl, by decide +kernel, rfl, by decide +kernel, by decide +kernel⟩
theorem ok_read_orderX (W : Wd K mg base) : Can P w K mg base 3 ("read_order", none) P_read_orderX (sp_read_orderX K) := by
  obtain ⟨fd, F⟩ := W.c.def_ 32 (d := d_read_orderX) rfl
  refine can_of F (F.bindsN fun _ _ _ _ _ _ us hl => match us, hl with | [_, _], _ => rfl) sc_read_orderX (fun vs H Q E h => by unfold sp_read_orderX at h; match vs, h with | [_, _], _ => rfl) (t_read_orderX K) (fun cdv A outer s H E hr => ?_) (pure_read_orderX)
  have nd := sc_read_orderX.nd
  exact (pss_cons (ps_expr (pe_callC (ok_need_kinds W) (hr.mono (by decide)) rfl (W.glo 15 rfl) (passes_call (takes_of rfl rfl rfl rfl) (fun _ _ _ _ h => h)) (pa_cons (pv 0) pa_nil)))
    (pss_cons (ps_set (i := 2) nd rfl (Or.inl rfl) (pe_lst pa_nil))
    (pss_cons (ps_for (passes_of rfl) rfl (pi_enum (by rfl) (W.free 36 rfl) (pa_cons (pe_split (pv 1) pe_str) pa_nil)) (pg_tup rfl (pgs_cons (pg_name (i := 3) nd rfl (Or.inl rfl)) (pgs_cons (pg_name (i := 4) nd rfl (Or.inl rfl)) pgs_nil))) (pss_cons (ps_set (i := 5) nd rfl (Or.inl rfl) (pe_split (pv 4) pe_str))
    (pss_cons (ps_set (i := 6) nd rfl (Or.inl rfl) (pe_callC (ok_number_of W) (hr.mono (by decide)) rfl (W.glo 62 rfl) (passes_call (takes_of rfl rfl rfl rfl) (fun _ _ _ _ h => h)) (pa_cons (pe_ixC ix_list (pv 5) pe_int (fun _ _ => rfl)) pa_nil)))
    (pss_cons (ps_if (PW.pt (pw_or (pt_cmpRC op_ne (pe_callB1 call_len_seq (by rfl) (W.free 1 rfl) (by decide +kernel) (pv 5)) pe_int (nomark _)) (pw_or (pt_cmpRC op_isN1 (pv 6) pe_non (nomark _)) (pw_or1 (pt_cmpR op_notIn_seq (pe_ixC ix_list (pv 5) pe_int (fun _ _ => rfl)) (pe_tup (pa_consC (pe_gstr rfl (W.str 9 rfl)) (pa_consC (pe_gstr rfl (W.str 10 rfl)) pa_nil))) (by rfl)))))) (pss_one (ps_raiseX (W.em 2 rfl) (ok_BadText___init__ W) (hr.mono (by decide)) rfl (W.glo 54 rfl) rfl (takes_of rfl rfl rfl rfl) (pa_cons (pv 3) pa_nil))) pss_nil)
    (pss_one (ps_expr (pe_bm PySem.F.plainAttrs_list PySem.F.slot_list_append PySem.F.type_list_append mt_append (pv 2) (pa_cons (pe_tup (pa_cons (pv 6) (pa_cons (pe_ixC ix_list (pv 5) pe_int (fun _ _ => rfl)) pa_nil))) pa_nil))))))))
    (pss_cons (ps_expr (pe_callC (ok_need_orderX W) (hr.mono (by decide)) rfl (W.glo 16 rfl) (passes_call (takes_of rfl rfl rfl rfl) (fun _ _ _ _ h => h)) (pa_cons (pv 0) (pa_cons (pv 2) pa_nil))))
    (pss_one (ps_ret (pv 2)))))))
theorem sc_plan_fromX : FnScope N_plan_fromX P_plan_fromX (defScope s_plan_fromX) := ⟨rfl, rfl, rfl, by decide +kernel, rfl, by decide +kernel, by decide +kernel⟩
theorem okr_plan_fromX (W : Wd K mg base) : ∀ d, Can P w K mg base (2 + d) ("plan_from", none) P_plan_fromX (spr_plan_fromX K d) := by
  obtain ⟨fd, F⟩ := W.c.def_ 33 (d := d_plan_fromX) rfl
  refine can_rec (lev := 2) F (F.bindsN fun _ _ _ _ _ _ us hl => match us, hl with | [_, _], _ => rfl) sc_plan_fromX (len_plan_fromX K) (no_plan_fromX K) (t_plan_fromX K) (fun d ih cdv A outer s H E hr => ?_) (fun d => pure_plan_fromX d)
  have nd := sc_plan_fromX.nd
  exact (pss_cons (ps_set (i := 2) nd rfl (Or.inl rfl) (pe_ifExp (pt_cmpR op_lt (pv 1) (pe_callB1 call_len_seq (by rfl) (W.free 1 rfl) (by decide +kernel) (pv 0)) (nomark _)) (pe_ix ix_list (pv 0) (pv 1) (fun _ _ => rfl)) pe_str))
    (pss_cons (ps_if (pt_cmpRC op_ne (pv 2) pe_str (nomark _)) (pss_cons (ps_set (i := 3) nd rfl (Or.inl rfl) (pe_callC (ok_number_of W) (hr.mono (by omega)) rfl (W.glo 62 rfl) (passes_call (takes_of rfl rfl rfl rfl) (fun _ _ _ _ h => h)) (pa_cons (pv 2) pa_nil)))
    (pss_cons (ps_if (pt_cmpRC op_isN1 (pv 3) pe_non (nomark _)) (pss_one (ps_raiseX (W.em 2 rfl) (ok_BadText___init__ W) (hr.mono (by omega)) rfl (W.glo 54 rfl) rfl (takes_of rfl rfl rfl rfl) (pa_cons (pv 1) pa_nil))) pss_nil)
    (pss_one (ps_ret (pe_tup (pa_cons (pv 3) (pa_cons (pe_opC op_add (pv 1) pe_int) pa_nil))))))) pss_nil)
    (pss_cons (ps_set (i := 4) nd rfl (Or.inl rfl) (pe_lst pa_nil))
    (pss_cons (ps_set (i := 1) nd rfl (Or.inl rfl) (pe_opC op_add (pv 1) pe_int))
    (pss_cons (ps_while (passes_of rfl) (PW.pt (pw_and (pt_cmpR op_lt (pv 1) (pe_callB1 call_len_seq (by rfl) (W.free 1 rfl) (by decide +kernel) (pv 0)) (nomark _)) (pw_and1 (pt_cmpRC op_ne (pe_ix ix_list (pv 0) (pv 1) (fun _ _ => rfl)) pe_str (nomark _))))) (pss_cons (ps_asg (pe_callC ih (hr.mono (by omega)) rfl (W.glo 63 rfl) (passes_call (takes_of rfl rfl rfl rfl) (fun _ _ _ _ h => h)) (pa_cons (pv 0) (pa_cons (pv 1) pa_nil))) (pg_tup rfl (pgs_cons (pg_name (i := 5) nd rfl (Or.inl rfl)) (pgs_cons (pg_name (i := 1) nd rfl (Or.inl rfl)) pgs_nil))))
    (pss_one (ps_expr (pe_bm PySem.F.plainAttrs_list PySem.F.slot_list_append PySem.F.type_list_append mt_append (pv 4) (pa_cons (pv 5) pa_nil))))))
    (pss_cons (ps_if (PW.pt (pw_or (pt_cmpR op_eq (pv 1) (pe_callB1 call_len_seq (by rfl) (W.free 1 rfl) (by decide +kernel) (pv 0)) (nomark _)) (pw_or1 (pt_cmpR (opx_eqE (hu_of hr)) (pv 4) (pe_lst pa_nil) (nomark _))))) (pss_one (ps_raiseX (W.em 2 rfl) (ok_BadText___init__ W) (hr.mono (by omega)) rfl (W.glo 54 rfl) rfl (takes_of rfl rfl rfl rfl) (pa_cons (pv 1) pa_nil))) pss_nil)
    (pss_one (ps_ret (pe_tup (pa_cons (pe_callTy1 call_tuple_of (by rfl) (W.free 5 rfl) (by decide +kernel) (pv 4)) (pa_cons (pe_opC op_add (pv 1) pe_int) pa_nil)))))))))))
theorem ok_plan_fromX (W : Wd K mg base) : Can P w K mg base 74 ("plan_from", none) P_plan_fromX (sp_plan_fromX K) := okr_plan_fromX W 72
theorem sc_read_planX : FnScope N_read_planX P_read_planX (defScope s_read_planX) := ⟨rfl, rfl, rfl, by decide +kernel, rfl, by decide +kernel, by decide +kernel⟩
theorem ok_read_planX (W : Wd K mg base) : Can P w K mg base 87 ("read_plan", none) P_read_planX (sp_read_planX K) := by
  obtain ⟨fd, F⟩ := W.c.def_ 34 (d := d_read_planX) rfl
  refine can_of F (F.bindsN fun _ _ _ _ _ _ us hl => match us, hl with | [_, _, _], _ => rfl) sc_read_planX (fun vs H Q E h => by unfold sp_read_planX at h; match vs, h with | [_, _, _], _ => rfl) (t_read_planX K) (fun cdv A outer s H E hr => ?_) (pure_read_planX)
  have nd := sc_read_planX.nd
  exact (pss_cons (ps_expr (pe_callC (ok_need_lengths W) (hr.mono (by decide)) rfl (W.glo 28 rfl) (passes_call (takes_of rfl rfl rfl rfl) (fun _ _ _ _ h => h)) (pa_cons (pv 0) pa_nil)))
    (pss_cons (ps_expr (pe_callC (ok_need_ways W) (hr.mono (by decide)) rfl (W.glo 29 rfl) (passes_call (takes_of rfl rfl rfl rfl) (fun _ _ _ _ h => h)) (pa_cons (pv 1) pa_nil)))
    (pss_cons (ps_set (i := 3) nd rfl (Or.inl rfl) (pe_ifExp (pt_cmpRC op_ne (pv 2) pe_str (nomark _)) (pe_split (pv 2) pe_str) (pe_lst pa_nil)))
    (pss_cons (ps_asg (pe_callC (ok_plan_fromX W) (hr.mono (by decide)) rfl (W.glo 63 rfl) (passes_call (takes_of rfl rfl rfl rfl) (fun _ _ _ _ h => h)) (pa_cons (pv 3) (pa_consC pe_int pa_nil))) (pg_tup rfl (pgs_cons (pg_name (i := 4) nd rfl (Or.inl rfl)) (pgs_cons (pg_name (i := 5) nd rfl (Or.inl rfl)) pgs_nil))))
    (pss_cons (ps_if (pt_cmpR op_lt (pv 5) (pe_callB1 call_len_seq (by rfl) (W.free 1 rfl) (by decide +kernel) (pv 3)) (nomark _)) (pss_one (ps_raiseX (W.em 2 rfl) (ok_BadText___init__ W) (hr.mono (by decide)) rfl (W.glo 54 rfl) rfl (takes_of rfl rfl rfl rfl) (pa_cons (pv 5) pa_nil))) pss_nil)
    (pss_cons (ps_expr (pe_callC (ok_costX W) (hr.mono (by decide)) rfl (W.glo 34 rfl) (passes_call (takes_of rfl rfl rfl rfl) (fun _ _ _ _ h => h)) (pa_cons (pv 0) (pa_cons (pv 1) (pa_cons (pv 4) pa_nil)))))
    (pss_one (ps_ret (pv 4)))))))))
theorem sc_law : FnScope N_law P_law (defScope s_law) := ⟨rfl, rfl, rfl, by decide +kernel, rfl, by decide +kernel, by decide +kernel⟩
theorem fn_law (W : Wd K mg base) {fd : FuncData} (F : FunD K d_law.name d_law.qual d_law.params d_law.body d_law.scope [] [] (He.fAd K d_law.at_) fd) : FnOk P w K mg base (L2.CX P w) 90 (He.fAd K d_law.at_) fd P_law (sp_law K) := by
  refine fn_ofL F sc_law (fun vs H Q E h => by unfold sp_law at h; match vs, h with | [_], _ => rfl) (t_law K) (fun A outer s H E hr => ?_) (pure_law (W.err 0 rfl) (W.em 2 rfl) (W.err 1 rfl) (W.err 2 rfl))
  have nd := sc_law.nd
  exact (pss_cons (ps_set (i := 1) nd rfl (Or.inl rfl) (pe_callC (ok_law_begun W) (hr.mono (by decide)) rfl (W.glo 64 rfl) (passes_call (takes_of rfl rfl rfl rfl) (fun _ _ _ _ h => h)) (pa_cons (pv 0) pa_nil)))
    (pss_cons (ps_set (i := 2) nd rfl (Or.inl rfl) (pe_lst (pa_consC pe_str (pa_consC pe_str (pa_consC pe_str (pa_consC pe_str (pa_consC pe_str (pa_consC pe_str (pa_consC pe_str (pa_consC pe_str (pa_consC pe_str (pa_consC pe_str (pa_consC pe_str (pa_consC pe_str (pa_consC pe_str pa_nil)))))))))))))))
    (pss_cons (ps_expr (pe_bm PySem.F.plainAttrs_list PySem.F.slot_list_append PySem.F.type_list_append mt_append (pv 2) (pa_consC pe_str pa_nil)))
    (pss_cons (ps_for (passes_of rfl) rfl (pi_range1 (by rfl) (W.free 4 rfl) (pa_consC pe_int pa_nil)) (pg_name (i := 3) nd rfl (Or.inl rfl)) (pss_cons (ps_set (i := 4) nd rfl (Or.inr rfl) (pe_callC (ok_law_kinds W) (hr.mono (by decide)) rfl (W.glo 65 rfl) (passes_call (takes_of rfl rfl rfl rfl) (fun _ _ _ _ h => h)) (pa_cons (pv 1) pa_nil)))
    (pss_cons (ps_set (i := 5) nd rfl (Or.inl rfl) (pe_callC (ok_law_order W) (hr.mono (by decide)) rfl (W.glo 66 rfl) (passes_call (takes_of rfl rfl rfl rfl) (fun _ _ _ _ h => h)) (pa_cons (pv 1) (pa_cons (pv 4) pa_nil))))
    (pss_cons (ps_set (i := 6) nd rfl (Or.inr rfl) (pe_callC (ok_law_lengths W) (hr.mono (by decide)) rfl (W.glo 67 rfl) (passes_call (takes_of rfl rfl rfl rfl) (fun _ _ _ _ h => h)) (pa_cons (pv 1) (pa_consC pe_int pa_nil))))
    (pss_cons (ps_set (i := 7) nd rfl (Or.inr rfl) (pe_opD op_add pe_int (pe_callC (ok_law_take W) (hr.mono (by decide)) rfl (W.glo 3 rfl) (passes_call (takes_of rfl rfl rfl rfl) (fun _ _ _ _ h => h)) (pa_cons (pv 1) (pa_consC pe_int pa_nil)))))
    (pss_cons (ps_set (i := 8) nd rfl (Or.inr rfl) (pe_callC (ok_written_order W) (hr.mono (by decide)) rfl (W.glo 68 rfl) (passes_call (takes_of rfl rfl rfl rfl) (fun _ _ _ _ h => h)) (pa_cons (pv 4) (pa_cons (pv 5) pa_nil))))
    (pss_cons (ps_set (i := 9) nd rfl (Or.inr rfl) (pe_callC (ok_written_plan W) (hr.mono (by decide)) rfl (W.glo 70 rfl) (passes_call (takes_of rfl rfl rfl rfl) (fun _ _ _ _ h => h)) (pa_cons (pv 6) (pa_cons (pv 7) (pa_cons (pe_callC (ok_law_plan W) (hr.mono (by decide)) rfl (W.glo 69 rfl) (passes_call (takes_of rfl rfl rfl rfl) (fun _ _ _ _ h => h)) (pa_cons (pv 1) (pa_cons (pe_listRg rfl rfl (W.free 0 rfl) (prg_1 rfl (W.free 4 rfl) (pe_callB1 call_len_seq (by rfl) (W.free 1 rfl) (by decide +kernel) (pv 6)))) (pa_cons (pv 7) pa_nil)))) pa_nil)))))
    (pss_cons (ps_for (passes_of rfl) rfl (pi_range1 (by rfl) (W.free 4 rfl) (pa_cons (pe_callC (ok_law_take W) (hr.mono (by decide)) rfl (W.glo 3 rfl) (passes_call (takes_of rfl rfl rfl rfl) (fun _ _ _ _ h => h)) (pa_cons (pv 1) (pa_consC pe_int pa_nil))) pa_nil)) (pg_name (i := 10) nd rfl (Or.inl rfl)) (pss_one (ps_asg (pe_tup (pa_cons (pe_callC (ok_law_spoilt W) (hr.mono (by decide)) rfl (W.glo 71 rfl) (passes_call (takes_of rfl rfl rfl rfl) (fun _ _ _ _ h => h)) (pa_cons (pv 1) (pa_cons (pv 8) pa_nil))) (pa_cons (pe_callC (ok_law_spoilt W) (hr.mono (by decide)) rfl (W.glo 71 rfl) (passes_call (takes_of rfl rfl rfl rfl) (fun _ _ _ _ h => h)) (pa_cons (pv 1) (pa_cons (pv 9) pa_nil))) pa_nil))) (pg_tup rfl (pgs_cons (pg_name (i := 8) nd rfl (Or.inr rfl)) (pgs_cons (pg_name (i := 9) nd rfl (Or.inr rfl)) pgs_nil))))))
    (pss_cons (ps_if (pt_cmpRC op_eq (pe_callC (ok_law_take W) (hr.mono (by decide)) rfl (W.glo 3 rfl) (passes_call (takes_of rfl rfl rfl rfl) (fun _ _ _ _ h => h)) (pa_cons (pv 1) (pa_consC pe_int pa_nil))) pe_int (nomark _)) (pss_one (ps_asg (pe_tup (pa_cons (pe_ix ix_list (pv 2) (pe_callC (ok_law_take W) (hr.mono (by decide)) rfl (W.glo 3 rfl) (passes_call (takes_of rfl rfl rfl rfl) (fun _ _ _ _ h => h)) (pa_cons (pv 1) (pa_consC pe_int pa_nil))) (fun _ _ => rfl)) (pa_cons (pe_ix ix_list (pv 2) (pe_callC (ok_law_take W) (hr.mono (by decide)) rfl (W.glo 3 rfl) (passes_call (takes_of rfl rfl rfl rfl) (fun _ _ _ _ h => h)) (pa_cons (pv 1) (pa_consC pe_int pa_nil))) (fun _ _ => rfl)) pa_nil))) (pg_tup rfl (pgs_cons (pg_name (i := 8) nd rfl (Or.inr rfl)) (pgs_cons (pg_name (i := 9) nd rfl (Or.inr rfl)) pgs_nil))))) pss_nil)
    (pss_cons (ps_set (i := 11) nd rfl (Or.inl rfl) (pe_lst (pa_cons (pe_callC (ok_law_order_due W) (hr.mono (by decide)) rfl (W.glo 72 rfl) (passes_call (takes_of rfl rfl rfl rfl) (fun _ _ _ _ h => h)) (pa_cons (pv 4) (pa_cons (pv 8) pa_nil))) (pa_cons (pe_callC (ok_law_plan_due W) (hr.mono (by decide)) rfl (W.glo 73 rfl) (passes_call (takes_of rfl rfl rfl rfl) (fun _ _ _ _ h => h)) (pa_cons (pe_callB1 call_len_seq (by rfl) (W.free 1 rfl) (by decide +kernel) (pv 6)) (pa_cons (pv 7) (pa_cons (pv 9) pa_nil)))) pa_nil))))
    (pss_one (ps_for (passes_of rfl) rfl (pi_range1 (by rfl) (W.free 4 rfl) (pa_consC pe_int pa_nil)) (pg_name (i := 12) nd rfl (Or.inl rfl)) (pss_cons (ps_set (i := 13) nd rfl (Or.inl rfl) (pe_lst (pa_cons (pe_told (T := Lms_k22) (p0 := ("law", none)) (k := 3) (told_law_told W) W.tab (List.mem_cons_self) rfl rfl (hr.mono (by decide)) (by show lamSB (defScope s_law) _ = true; decide +kernel) rfl (fun _ _ _ _ _ => rfl) (fun _ _ _ _ E _ _ hr => (pe_callC (ok_read_orderX W) (hr.mono (by decide)) rfl (W.glo 74 rfl) (passes_call (takes_of rfl rfl rfl rfl) (fun _ _ _ _ h => h)) (pa_cons (pv 4) (pa_cons (pv 8) pa_nil))))) pa_nil)))
    (pss_cons (ps_expr (pe_bm PySem.F.plainAttrs_list PySem.F.slot_list_append PySem.F.type_list_append mt_append (pv 13) (pa_cons (pe_told (T := Lms_k22) (p0 := ("law", none)) (k := 87) (told_law_told W) W.tab (List.mem_cons_self) rfl rfl (hr.mono (by decide)) (by show lamSB (defScope s_law) _ = true; decide +kernel) rfl (fun _ _ _ _ _ => rfl) (fun _ _ _ _ E _ _ hr => (pe_callC (ok_read_planX W) (hr.mono (by decide)) rfl (W.glo 75 rfl) (passes_call (takes_of rfl rfl rfl rfl) (fun _ _ _ _ h => h)) (pa_cons (pv 6) (pa_cons (pv 7) (pa_cons (pv 9) pa_nil)))))) pa_nil)))
    (pss_one (ps_if (pt_not (pt_val (pe_callC (ok_law_alike W) (hr.mono (by decide)) rfl (W.glo 59 rfl) (passes_call (takes_of rfl rfl rfl rfl) (fun _ _ _ _ h => h)) (pa_cons (pv 13) (pa_cons (pv 11) pa_nil))))) (pss_one (ps_ret pe_bl)) pss_nil))))))))))))))))
    (pss_one (ps_ret pe_bl))))))
end
end Lw
namespace Lw
open PySem PySem.Spec PyProof.Rows L2 Rs
/-- a promise that holds whatever may be raised: nothing is -/
theorem calm {P : Program} {w : World} {K : PySem.W.Frag} {mg : Str → Option Value} {base : Heap} {k : Nat} {f : Addr} {fd : FuncData} {ps : List Str} {sp : Sp} (F : FnOk P w K mg base (L2.CX P w) k f fd ps sp) (hE : ∀ vs H Q E, sp vs H Q E → sp vs H Q E0) : FnOk P w K mg base CX0 k f fd ps sp :=
  ⟨F.len, fun A outer s H args us vs Q E hr he hb hv hs => codeAny_mono (F.run A outer s H args us vs Q E0 hr he hb hv (hE _ _ _ _ hs)) fun r s' h => by
    cases r with
    | error e =>
      obtain ⟨_, _, _, _, _, _, _, _, _, _, _, _, hf⟩ := h
      exact hf.elim
    | ok fl => cases fl <;> exact h⟩
end Lw
open PySem PySem.W PySem.Calls PyProof.Rows
theorem PySem.Challenge.cw_runsorts_k22_texts_refused_holds : PySem.Challenge.rw_runsorts_k22_texts_refused.Holds := by
  w_on; o_law
  refine HandSHeadRun.head_any (r := OpenLaw.row PySem.Challenge.rw_runsorts_k22_texts_refused) (q := view (OpenLaw.row PySem.Challenge.rw_runsorts_k22_texts_refused).prog [72]) (H := Lw.hk) (ob := Lw.ob) (M := 15000) (loose := Lw.loose) (d := HandSHeadRun.topDef (OpenLaw.row PySem.Challenge.rw_runsorts_k22_texts_refused).prog 72) (kwd := []) Lw.ob_eq
    (by kernel_rfl) (fun s => by kernel_rfl) Lw.run (by kernel_rfl) (by kernel_rfl) (by kernel_rfl) (by rfl) (by first | assumption | decide +kernel) (by decide +kernel) ⟨rfl, rfl, rfl, rfl, rfl, by decide +kernel⟩ ?hw ?hc
  case hw => w_witness2
  case hc =>
    refine LamX.walk_ofTsE (l := PySem.Challenge.rw_runsorts_k22_texts_refused) (n := 63) (k := 90) (x := "_law_script") (CX := fun _ => L2.CX0) rfl (by decide) (by kernel_rfl) ⟨rfl, by decide, by decide⟩ ?F (fun _ _ _ _ _ z => z)
    intro w mg fa h Y G hmg0
    obtain ⟨K, KX, c⟩ := Y
    have hmg : mg ("law" : PySem.Str) = some (.ref fa) := by
      have e : (HandSHeadRun.topDef (OpenLaw.row PySem.Challenge.rw_runsorts_k22_texts_refused).prog 72).name = ("law" : PySem.Str) := by kernel_rfl
      rw [← e]
      exact hmg0
    obtain ⟨fd, F⟩ := c.m.def_ 35 (d := Lw.d_law) rfl
    have e := hmg.symm.trans (He.glo_ok KX G (Lw.says_fact c.m 76 (f := .glo "law") rfl))
    cases e
    have b := L2.FunD.bindsA (ps := ["_law_script"]) F fun _ _ _ _ _ _ us hl => match us, hl with | [_], _ => rfl
    refine ⟨K, KX, fd, Lw.tf.map fun p => He.cT K p, Rs.sp_law K, ?_, ?_, ?_, fun s v => b s [v] rfl, fun H a ns hl _ hT hS => ⟨a, ns, rfl, hS, hl, ?_, fun _ => rfl⟩, fun base _ _ TB => Lw.calm (Lw.fn_law ⟨c.m, ⟨h, KX, G⟩, ⟨?_, Lw.nodup_tabs c.m⟩⟩ F) fun vs H Q E h => h⟩
    · intro p hp
      obtain ⟨q, hq, rfl⟩ := List.mem_map.mp hp
      exact c.empty q hq
    · intro p hp
      obtain ⟨q, hq, rfl⟩ := List.mem_map.mp hp
      exact c.out q hq
    · intro p hp
      obtain ⟨q, hq, rfl⟩ := List.mem_map.mp hp
      exact PySem.W.codeHd_of_K KX (c.hd q hq)
    · exact Lw.tabs_start H fun q hq => hT _ (List.mem_map.mpr ⟨q, hq, rfl⟩)
    · intro p hp
      exact TB _ (List.mem_map.mpr ⟨p.1, Lw.lms_tf p hp, rfl⟩)
