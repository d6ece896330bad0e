import PyProof.Rows.All
import Wide.All
import OpenK.AllK
import Wide.FinOn
import KE.KStateDown
import Lean
import HandS.ForMost
import HandS.ForExc
import HandS.Flow
import HandS.Wide
import HandS.TupAny
import HandS.Zip
import HandS.IsInst
import HandS.Steps
import HandS.More
import HandS.Conv
import HandS.Deep
import HandS.Walk
import HandS.Defaults
import HandS.Head0
import HandS.Head1
import HandS.Head2
import HandS.HeadEnd
import HandS.HeadHook1
import HandS.HeadHook2
import HandS.Exc
import HandS.ExcOwn
import HandS.TryOnly
import HandS.Style
import HandS.Lambda
import HandS.HotCalls
import HandS.ExcIs
import HandS.ExcField
import HandS.HeadHook3
import HandS.HeadHook4
import HandS.EndTab
import HandS.HeadWalk
import HandS.ExcInit
import HandS.WordsExc
import HandS.TupMul
import HandS.Codes
import KE.LtData
import HandS.SortRule
import HandS.SortInts
import HandS.Ends
import HandS.Words
import PySem.Challenge.RW_runsorts_k07_plans_and_costs
set_option Elab.async false
set_option linter.all false
set_option maxRecDepth 100000
set_option maxHeartbeats 4000000
/-! the head: facts by names, told over the objects that the module's names reach -/
namespace Hx
open PySem PySem.Spec PyProof.Rows L2
def obj1 (g : Addr → Option Obj) (v : Value) : List Addr := match v with
  | .ref b => (match g b with
    | some ⟨_, _, .func fd, _⟩ => b :: (He.refV fd.code ++ He.refV fd.defaults)
    | _ => [b])
  | _ => []
def obj2 (g : Addr → Option Obj) (v : Value) : List Addr := match v with
  | .ref b => (match g b with
    | some ⟨_, _, .func fd, _⟩ => b :: (He.refV fd.code ++ He.refV fd.defaults)
    | some ⟨_, _, .cls cd, _⟩ => b :: cd.ns :: (match g cd.ns with
      | some ⟨_, _, .dict es _, _⟩ => es.toList.flatMap fun e => obj1 g e.val
      | _ => [])
    | _ => [b])
  | _ => []
def asX (g : Addr → Option Obj) : List Addr := cStatics :: mainGlobals :: (match g mainGlobals with
  | some ⟨_, _, .dict es _, _⟩ => es.toList.flatMap fun e => obj2 g e.val
  | _ => [])
abbrev Fs : Type := List (PySem.W.Frag → Bool)
def obsM (fs : Fs) (fn : List He.DefD) (K : PySem.W.Frag) : He.AlD := ((fs.all fun f => f K) && fn.all fun d => d.ok K, fn.map fun d => He.fnW K d.at_)
def SaysM (fs : Fs) (fn : List He.DefD) (K : PySem.W.Frag) : Prop := obsM fs fn K = He.valD fn
def obsMG (fs : Fs) (fn : List He.DefD) (g : Addr → Option Obj) : He.AlD := obsM fs fn (He.frG g (asX g))
def hookM (fs : Fs) (fn : List He.DefD) : PySem.W.Hook where
  α := He.AlD
  obs := fun s => obsMG fs fn s.heap.get?
  val := fun _ => He.valD fn
  says := fun _ h => ∃ K : PySem.W.Frag, K.In h ∧ SaysM fs fn K
  of := fun _ _ e => ⟨_, He.frG_in, e⟩
  keeps := fun _ _ _ ⟨K, hK, c⟩ k => ⟨K, PySem.W.Frag.In.keeps hK k, c⟩
theorem obsMG_eq {fs : Fs} {fn : List He.DefD} {g : Addr → Option Obj} {s : Shared} (h : ∀ a, g a = s.heap.get? a) : obsMG fs fn g = (hookM fs fn).obs s := by
  have e : g = s.heap.get? := funext h
  rw [e] <;> rfl
section
variable {fs : Fs} {fn : List He.DefD} {K : PySem.W.Frag}
theorem SaysM.fact (c : SaysM fs fn K) (i : Nat) {f : PySem.W.Frag → Bool} (h : fs[i]? = some f := by rfl) : f K = true := by
  have c1 := (He.ba (show ((fs.all fun f => f K) && fn.all fun d => d.ok K) = true from congrArg (fun z : He.AlD => z.1) c)).1
  exact List.all_eq_true.mp c1 f (List.mem_of_getElem? h)
theorem SaysM.def_ (c : SaysM fs fn K) (i : Nat) {d : He.DefD} (h : fn[i]? = some d := by rfl) : ∃ fd, FunD K d.name d.qual d.params d.body d.scope (d.dvs K) (d.kws K) (He.fAd K d.at_) fd := by
  have c2 := (He.ba (show ((fs.all fun f => f K) && fn.all fun d => d.ok K) = true from congrArg (fun z : He.AlD => z.1) c)).2
  have e : fn.map (fun d => He.fnW K d.at_) = fn.map He.DefD.val := congrArg (fun z : He.AlD => z.2) c
  have e2 : (fn.map fun d => He.fnW K d.at_)[i]? = (fn.map He.DefD.val)[i]? := by rw [e]
  rw [List.getElem?_map, List.getElem?_map, h] at e2
  exact He.DefD.funD (Option.some.inj e2) (List.all_eq_true.mp c2 d (List.mem_of_getElem? h))
end
end Hx

/-! the same, the tables of the defs that make lambdas told beside -/
namespace Hx
open PySem PySem.Spec PyProof.Rows L2
structure SaysMT (fs : Fs) (fn : List He.DefD) (tf : List He.Defn) (h : Heap) (K : PySem.W.Frag) : Prop where
  m : SaysM fs fn K
  hd : ∀ p ∈ tf, PySem.W.codeHdIn K (He.cT K p).1 (He.cT K p).2 = true
  out : ∀ p ∈ tf, K.lookup (He.cT K p).2 = none
  empty : ∀ p ∈ tf, h.get? (He.cT K p).2 = some { cls := .none, data := .fields #[] }
def obsMT (fs : Fs) (fn : List He.DefD) (tf : List He.Defn) (g : Addr → Option Obj) : He.AlD × Bool := (obsM fs fn (He.frT g (asX g)), He.tabsB g tf (He.frT g (asX g)))
theorem saysMT_of {fs : Fs} {fn : List He.DefD} {tf : List He.Defn} {h : Heap} (e : obsMT fs fn tf h.get? = (He.valD fn, true)) : SaysMT fs fn tf h (He.frT h.get? (asX h.get?)) := by
  have e1 : obsM fs fn (He.frT h.get? (asX h.get?)) = He.valD fn := congrArg (fun z : He.AlD × Bool => z.1) e
  have e2 : He.tabsB h.get? tf (He.frT h.get? (asX h.get?)) = true := congrArg (fun z : He.AlD × Bool => z.2) e
  have at_ : ∀ p ∈ tf, PySem.W.codeHdIn (He.frT h.get? (asX h.get?)) (He.cT (He.frT h.get? (asX h.get?)) p).1 (He.cT (He.frT h.get? (asX h.get?)) p).2 = true ∧ ∃ o, h.get? (He.cT (He.frT h.get? (asX h.get?)) p).2 = some o ∧ He.emptyTab o = true := fun p hp => by
    obtain ⟨g1, g2⟩ := He.ba (List.all_eq_true.mp e2 p hp)
    refine ⟨g1, ?_⟩
    revert g2
    cases h.get? (He.cT (He.frT h.get? (asX h.get?)) p).2 with
    | none => exact fun z => (nomatch z)
    | some o => exact fun z => ⟨o, rfl, z⟩
  exact ⟨e1, fun p hp => (at_ p hp).1, fun p hp => (at_ p hp).2.elim fun o z => He.frT_none z.1 z.2, fun p hp => (at_ p hp).2.elim fun o z => by rw [z.1, He.emptyTab_eq z.2]⟩
def hookMT (fs : Fs) (fn : List He.DefD) (tf : List He.Defn) : PySem.W.Hook where
  α := He.AlD × Bool
  obs := fun s => obsMT fs fn tf s.heap.get?
  val := fun _ => (He.valD fn, true)
  says := fun _ h => ∃ K : PySem.W.Frag, K.In h ∧ SaysMT fs fn tf h K
  of := fun _ _ e => ⟨_, He.frT_in, saysMT_of e⟩
  keeps := fun _ _ _ ⟨K, hK, c⟩ k => ⟨K, PySem.W.Frag.In.keeps hK k, ⟨c.m, c.hd, c.out, fun p hp => k _ _ (c.empty p hp)⟩⟩
theorem obsMT_eq {fs : Fs} {fn : List He.DefD} {tf : List He.Defn} {g : Addr → Option Obj} {s : Shared} (h : ∀ a, g a = s.heap.get? a) : obsMT fs fn tf g = (hookMT fs fn tf).obs s := by
  have e : g = s.heap.get? := funext h
  rw [e] <;> rfl
end Hx

namespace Rs
open PySem PySem.Spec PyProof.Rows L2
def errNames : List Str := ["BadKinds", "BadOrder", "BadRows", "BadRuns", "BadRoom", "BadLengths", "BadPlan", "BadPaper", "BadCount", "BadBlock", "Stopped", "Shut", "NotYet", "Empty", "BadText"]
def excCB (K : PySem.W.Frag) (D : Addr) : Bool :=
  decide (PySem.W.findIn K (.ref D) "__getattribute__" = some (some (.builtin "BaseException.__getattribute__"))) && (decide (PySem.W.findIn K (.ref D) "__getattr__" = some none) && (decide (PySem.W.subIn K (.ref D) (.type "BaseException") = some true) && (PySem.W.hasDictIn K D &&
    (decide (PySem.W.findIn K (.ref D) "__class__" = some (some (.builtin "object.__class__"))) && (decide (PySem.W.specialIn K (.builtin "object.__class__") "__get__" = some (some (.builtin "getset_descriptor.__get__"))) && (decide (PySem.W.takesIn K (.builtin "object.__class__") = some true) && decide (PySem.W.mroIn K D (.type "object") = some true)))))))
def errB (x : Str) (K : PySem.W.Frag) : Bool :=
  decide (x ∈ errNames) && (excCB K (He.ga K x) && ((errNames.all fun y => decide (PySem.W.kitOne K (.ref (He.ga K x)) (.ref (He.ga K y)) = some (decide (x = y)))) && (decide (PySem.W.kitOne K (.ref (He.ga K x)) (.type "ValueError") = some true) && decide (PySem.W.exmOne K (.ref (He.ga K x)) (.ref (He.ga K "SortError")) = some true))))
end Rs
namespace Lw
open PySem PySem.Spec PyProof.Rows L2 Rs LamX
/-! ### the text by places -/
def top (i : Nat) : Stmt := PySem.Challenge.pw_runsorts_k07_plans_and_costs.main.body.getD i (.Pass ⟨0, 0, 0, 0⟩)
abbrev s_law_begun : Stmt := top 48
def d_law_begun : He.DefD := ⟨("_law_begun", none), "_law_begun", "_law_begun", defArgs s_law_begun, defBody s_law_begun, defScope s_law_begun, [], []⟩
abbrev s_law_take : Stmt := top 49
def d_law_take : He.DefD := ⟨("_law_take", none), "_law_take", "_law_take", defArgs s_law_take, defBody s_law_take, defScope s_law_take, [], []⟩
abbrev s_law_lengths : Stmt := top 54
def d_law_lengths : He.DefD := ⟨("_law_lengths", none), "_law_lengths", "_law_lengths", defArgs s_law_lengths, defBody s_law_lengths, defScope s_law_lengths, [], []⟩
abbrev s_law_plan : Stmt := top 55
def d_law_plan : He.DefD := ⟨("_law_plan", none), "_law_plan", "_law_plan", defArgs s_law_plan, defBody s_law_plan, defScope s_law_plan, [], []⟩
abbrev s_need_lengthsX : Stmt := top 22
def d_need_lengthsX : He.DefD := ⟨("need_lengths", none), "need_lengths", "need_lengths", defArgs s_need_lengthsX, defBody s_need_lengthsX, defScope s_need_lengthsX, [], []⟩
abbrev s_need_waysX : Stmt := top 23
def d_need_waysX : He.DefD := ⟨("need_ways", none), "need_ways", "need_ways", defArgs s_need_waysX, defBody s_need_waysX, defScope s_need_waysX, [], []⟩
abbrev s_are_merges : Stmt := top 25
def d_are_merges : He.DefD := ⟨("are_merges", none), "are_merges", "are_merges", defArgs s_are_merges, defBody s_are_merges, defScope s_are_merges, [], []⟩
abbrev s_runs_in : Stmt := top 24
def d_runs_in : He.DefD := ⟨("runs_in", none), "runs_in", "runs_in", defArgs s_runs_in, defBody s_runs_in, defScope s_runs_in, [], []⟩
abbrev s_rows_in : Stmt := top 26
def d_rows_in : He.DefD := ⟨("rows_in", none), "rows_in", "rows_in", defArgs s_rows_in, defBody s_rows_in, defScope s_rows_in, [], []⟩
abbrev s_moved : Stmt := top 27
def d_moved : He.DefD := ⟨("moved", none), "moved", "moved", defArgs s_moved, defBody s_moved, defScope s_moved, [], []⟩
abbrev s_costY : Stmt := top 28
def d_costY : He.DefD := ⟨("cost", none), "cost", "cost", defArgs s_costY, defBody s_costY, defScope s_costY, [], []⟩
abbrev s_law_in : Stmt := top 57
def d_law_in : He.DefD := ⟨("_law_in", none), "_law_in", "_law_in", defArgs s_law_in, defBody s_law_in, defScope s_law_in, [], []⟩
abbrev s_law_fits : Stmt := top 59
def d_law_fits : He.DefD := ⟨("_law_fits", none), "_law_fits", "_law_fits", defArgs s_law_fits, defBody s_law_fits, defScope s_law_fits, [], []⟩
abbrev s_law_bad : Stmt := top 60
def d_law_bad : He.DefD := ⟨("_law_bad", none), "_law_bad", "_law_bad", defArgs s_law_bad, defBody s_law_bad, defScope s_law_bad, [], []⟩
abbrev s_law_alike : Stmt := top 50
def d_law_alike : He.DefD := ⟨("_law_alike", none), "_law_alike", "_law_alike", defArgs s_law_alike, defBody s_law_alike, defScope s_law_alike, [], []⟩
abbrev s_law_class : Stmt := top 51
def d_law_class : He.DefD := ⟨("_law_class", none), "_law_class", "_law_class", defArgs s_law_class, defBody s_law_class, defScope s_law_class, [], []⟩
abbrev s_law_told : Stmt := top 52
def d_law_told : He.DefD := ⟨("_law_told", none), "_law_told", "_law_told", defArgs s_law_told, defBody s_law_told, defScope s_law_told, [], []⟩
abbrev s_law_all : Stmt := top 53
def d_law_all : He.DefD := ⟨("_law_all", none), "_law_all", "_law_all", defArgs s_law_all, defBody s_law_all, defScope s_law_all, [], []⟩
abbrev s_written_planX : Stmt := top 44
def d_written_planX : He.DefD := ⟨("written_plan", none), "written_plan", "written_plan", defArgs s_written_planX, defBody s_written_planX, defScope s_written_planX, [], []⟩
abbrev s_cheapestX : Stmt := top 31
def d_cheapestX : He.DefD := ⟨("cheapest", none), "cheapest", "cheapest", defArgs s_cheapestX, defBody s_cheapestX, defScope s_cheapestX, [], []⟩
abbrev s_neighboursX : Stmt := top 36
def d_neighboursX : He.DefD := ⟨("neighbours", none), "neighbours", "neighbours", defArgs s_neighboursX, defBody s_neighboursX, defScope s_neighboursX, [], []⟩
abbrev s_paperX : Stmt := top 37
def d_paperX : He.DefD := ⟨("paper", none), "paper", "paper", defArgs s_paperX, defBody s_paperX, defScope s_paperX, [], []⟩
abbrev s_boundX : Stmt := top 38
def d_boundX : He.DefD := ⟨("bound", none), "bound", "bound", defArgs s_boundX, defBody s_boundX, defScope s_boundX, [], []⟩
abbrev s_read_planY : Stmt := top 46
def d_read_planY : He.DefD := ⟨("read_plan", none), "read_plan", "read_plan", defArgs s_read_planY, defBody s_read_planY, defScope s_read_planY, [], []⟩
abbrev s_law_cost : Stmt := top 58
def d_law_cost : He.DefD := ⟨("_law_cost", none), "_law_cost", "_law_cost", defArgs s_law_cost, defBody s_law_cost, defScope s_law_cost, [], []⟩
abbrev s_law : Stmt := top 61
def d_law : He.DefD := ⟨("law", none), "law", "law", defArgs s_law, defBody s_law, defScope s_law, [], []⟩
def fn : List He.DefD := [d_law_begun, d_law_take, d_law_lengths, d_law_plan, d_need_lengthsX, d_need_waysX, d_are_merges, d_runs_in, d_rows_in, d_moved, d_costY, d_law_in, d_law_fits, d_law_bad, d_law_alike, d_law_class, d_law_told, d_law_all, d_written_planX, d_cheapestX, d_neighboursX, d_paperX, d_boundX, d_read_planY, d_law_cost, d_law]
def fa : List He.Fa := [.free "list",
  .free "len",
  .free "int",
  .glo "_law_take",
  .free "range",
  .free "min",
  .free "tuple",
  .int "MOST_RUNS" 40,
  .exc "BadLengths",
  .glo "BadLengths",
  .int "MOST_LENGTH" 1000000,
  .int "LEAST_WAYS" 2,
  .int "MOST_WAYS" 6,
  .exc "BadRoom",
  .glo "BadRoom",
  .free "isinstance",
  .glo "are_merges",
  .glo "runs_in",
  .free "sum",
  .glo "rows_in",
  .glo "moved",
  .glo "need_lengths",
  .glo "need_ways",
  .free "sorted",
  .exc "BadPlan",
  .glo "BadPlan",
  .glo "_law_in",
  .glo "_law_fits",
  .free "bool",
  .free "str",
  .glo "_law_alike",
  .glo "_law_class",
  .glo "BadKinds",
  .glo "BadOrder",
  .glo "BadRows",
  .glo "BadRuns",
  .glo "BadPaper",
  .glo "BadCount",
  .glo "BadBlock",
  .glo "Stopped",
  .glo "Shut",
  .glo "NotYet",
  .glo "Empty",
  .glo "BadText",
  .free "ValueError",
  .glo "SortError",
  .glo "_law_told",
  .glo "_law_all",
  .glo "cost",
  .glo "_law_cost",
  .glo "_law_begun",
  .glo "_law_lengths",
  .glo "_law_plan",
  .glo "_law_bad",
  .glo "written_plan",
  .glo "cheapest",
  .glo "neighbours",
  .glo "paper",
  .glo "bound",
  .glo "read_plan",
  .glo "law"]
def tf : List He.Defn := [("law", none)]
def fe : List Str := ["BadPlan", "BadRoom", "BadLengths"]
def fr : Hx.Fs := fa.map fun f K => f.ok K
def fs : Hx.Fs := (fun K => decide ((tf.map fun p => (He.cT K p).2).Nodup)) :: (fe.map (fun x K => Rs.errB x K) ++ fr)
/-! ### the head -/
def loose : List PySem.Str := (["__name__", "SortError", "BadKinds", "BadOrder", "BadRows", "BadRuns", "BadRoom", "BadLengths", "BadPlan", "BadPaper", "BadCount", "BadBlock", "Stopped", "Shut", "NotYet", "Empty", "BadText", "MOST_RUNS", "MOST_LENGTH", "LEAST_WAYS", "MOST_WAYS", "need_lengths", "need_ways", "runs_in", "are_merges", "rows_in", "moved", "cost", "how_many", "least_runs"] : List PySem.Str) ++ (["cheapest", "stretches", "cuts_of", "neighbours_of", "plan_of", "neighbours", "paper", "bound", "FIGURES", "MOST_FIGURES", "number_of", "text_of", "written_plan", "plan_from", "read_plan", "_law_begun", "_law_take", "_law_alike", "_law_class", "_law_told", "_law_all", "_law_lengths", "_law_plan", "_law_side", "_law_in", "_law_cost", "_law_fits", "_law_bad"] : List PySem.Str)
abbrev R : PySem.W.OpenRow := PySem.W.OpenLaw.row PySem.Challenge.rw_runsorts_k07_plans_and_costs
abbrev hk : PySem.W.Hook := Hx.hookMT fs fn tf
def ob (s : PySem.W.SharedT) : He.AlD × Bool := Hx.obsMT fs fn tf (HandSHeadRun.getT s)
theorem ob_eq (s : PySem.W.SharedT) : ob s = hk.obs s.abs := Hx.obsMT_eq (HandSHeadRun.getT_eq s)
theorem run (w : World) : HandSHeadRun.RunEq R (PySem.W.view R.prog [61]) hk ob 15000 loose w := by
  intro os
  kernel_rfl
end Lw
namespace Rs
open PySem PySem.Spec PyProof.Rows L2

abbrev xAdd : R2 := rI0 fun i j => .int (i + j)
abbrev xSub : R2 := rI0 fun i j => .int (i - j)
abbrev xMul : R2 := rI CMul fun i j => .int (i * j)
abbrev xDiv : R2 := rI CDivW fun i j => .int (i / j)
abbrev xMod : R2 := rI (fun _ j => 0 < j) fun i j => .int (i % j)
abbrev xPow : R2 := rI CPow fun i j => .int (i ^ j.toNat)
abbrev xLe : R2 := rI0 fun i j => .bl (decide (i ≤ j))
abbrev xGt : R2 := rI0 fun i j => .bl (decide (j < i))
abbrev xLen (K : PySem.W.Frag) : List V → Hp → VK → Prop := fun xs H Q => ∃ p ys, xs = [.ref p] ∧ (SqL K H p ys ∨ SqT K H p ys) ∧ Q (.int ys.length) H
abbrev xInt : List V → Hp → VK → Prop := fun xs H Q => (∃ i, xs = [.int i] ∧ Q (.int i) H) ∨ ∃ k, xs = [.bl k] ∧ Q (.int (if k then 1 else 0)) H
abbrev xList (K : PySem.W.Frag) : List V → Hp → VK → Prop := fun xs H Q => ∃ p ys, xs = [.ref p] ∧ (SqL K H p ys ∨ SqT K H p ys) ∧ ∀ l, H l = none → Q (.ref l) (upd H l (.lst ys))
abbrev xTuple (K : PySem.W.Frag) : List V → Hp → VK → Prop := fun xs H Q => ∃ p ys, xs = [.ref p] ∧ ((SqL K H p ys ∧ ∀ l, H l = none → Q (.ref l) (upd H l (.tup ys))) ∨ (SqT K H p ys ∧ Q (.ref p) H))
abbrev xMin2 : List V → Hp → VK → Prop := fun xs H Q => ∃ i j, xs = [.int i, .int j] ∧ Q (.int (if j < i then j else i)) H
abbrev xInsert : V → List V → Hp → VK → Prop := fun x vs H Q => ∃ (l : Addr) (xs : List V) (i : Int) (y : V), x = .ref l ∧ vs = [.int i, y] ∧ H l = some (.lst xs) ∧ xs.length < sizeLine ∧ 0 ≤ i ∧ i < 2 ^ 63 ∧ Q .non (upd H l (.lst (xs.take i.toNat ++ [y] ++ xs.drop i.toNat)))
abbrev rSlTA (K : PySem.W.Frag) : V → Option Int → Option Int → Hp → VK → Prop := rSlA K
def xEqE (K : PySem.W.Frag) : R2 := fun x y H Q => ∃ a b xs ys, x = .ref a ∧ y = .ref b ∧ SqL K H a xs ∧ SqL K H b ys ∧ (xs = [] ∨ ys = []) ∧ Q (.bl (decide (xs.length = ys.length))) H
def xNeE (K : PySem.W.Frag) : R2 := fun x y H Q => ∃ a b xs ys, x = .ref a ∧ y = .ref b ∧ SqL K H a xs ∧ SqL K H b ys ∧ (xs = [] ∨ ys = []) ∧ Q (.bl (!decide (xs.length = ys.length))) H
section
variable {X : Cx}
end
theorem hu64 {A : Around} {k : Nat} (hr : Room k A) : A.units + 64 < cLine := hr.units
def tOpC (r : R2) (ta : TE) (v : V) : TE := fun σ H Q => ta σ H fun x H1 => r x v H1 Q
def tOpD (r : R2) (v : V) (tb : TE) : TE := fun σ H Q => tb σ H fun y H1 => r v y H1 Q
def tConsC (v : V) (tr : TA) : TA := fun σ H Q => tr σ H fun xs H1 => Q (v :: xs) H1
def gSubC (to : TE) (i : V) (t : TSet) : TG := fun v σ H Q => to σ H fun o H1 => t o i v H1 fun H3 => Q σ H3
section
variable {X : Cx} {a b e : Expr} {es : List Expr} {r : R2} {ta tb : TE} {t : TA} {v : V} {pos : Pos}
theorem pe_opC {op : Operator} (ho : OpR X (binaryOp op) r) (ha : PE X a ta) (hb : PE X b (tC v)) : PE X (.BinOp a op b pos) (tOpC r ta v) := pe_op ho ha hb
theorem pe_opD {op : Operator} (ho : OpR X (binaryOp op) r) (ha : PE X a (tC v)) (hb : PE X b tb) : PE X (.BinOp a op b pos) (tOpD r v tb) := pe_op ho ha hb
theorem pe_cmpRC {op : CmpOp} (ho : OpR X (compareOp op) r) (ha : PE X a ta) (hb : PE X b (tC v)) (hm : behindInMarks op b = false) : PE X (.Compare a [op] [b] pos) (tOpC r ta v) := pe_cmpR ho ha hb hm
theorem pt_cmpRC {op : CmpOp} (ho : OpR X (compareOp op) r) (ha : PE X a ta) (hb : PE X b (tC v)) (hm : behindInMarks op b = false) : PT X (.Compare a [op] [b] pos) (tTest (tOpC r ta v)) := pt_cmpR ho ha hb hm
theorem pe_ixC (hr : IxR X r) (ha : PE X a ta) (hb : PE X b (tC v)) (hs : PlainIx b) : PE X (.Subscript a b pos) (tOpC r ta v) := pe_ix hr ha hb hs
theorem pa_consC (he : PE X e (tC v)) (hr : PA X es t) (h : starEach (e :: es) X.env = (false, eval e X.env) :: starEach es X.env := by rfl) : PA X (e :: es) (tConsC v t) := pa_cons he hr h
theorem pe_unN {i : Int} (ha : PE X a (tC (.int i))) : PE X (.UnaryOp .USub a pos) (tC (.int (-i))) := by
  refine ⟨fun pins s σ H Q I h => (pe_un un_neg ha).run pins s σ H Q I ?_⟩
  exact ⟨i, rfl, h⟩
theorem pg_subC {t : TSet} (ho : PE X a ta) (hi : PE X b (tC v)) (hs : PSet X t) (ha : ∀ v, assign (.Subscript a b pos) X.env v = (do
      let ov ← holding [v] (eval a X.env)
      let iv ← holding [v, ov] (eval b X.env)
      standAt pos
      holding [v, ov, iv] (setItem ov iv v)
      release [v, ov, iv] []) := by intro _; rfl) : PG X (.Subscript a b pos) (gSubC ta v t) := pg_sub ho hi hs ha
end
section
variable {X : Cx}
theorem two_lists {pins : List (Addr × Obj)} {σ : L2.St} {H : Hp} {s : Shared} {a b : Addr} {xs ys : List V} (I : Inv X pins σ H s) (h1 : SqL X.K H a xs) (h2 : SqL X.K H b ys) :
    ∃ i1 i2 : List Value, s.heap.IsList a i1.toArray ∧ s.heap.IsList b i2.toArray ∧ xs.length = i1.length ∧ ys.length = i2.length := by
  obtain ⟨i1, r1, ⟨o, n, ho, hc, _, hd⟩, _⟩ := I.list h1
  obtain ⟨i2, r2, ⟨o2, n2, ho2, hc2, _, hd2⟩, _⟩ := I.list h2
  exact ⟨i1, i2, ⟨o, ho, hc, n, hd⟩, ⟨o2, ho2, hc2, n2, hd2⟩, r1.length, r2.length⟩
theorem opx_eqE (hu : X.A.units + 1 < cLine) : OpR X (compareOp .Eq) (xEqE X.K) := by
  intro pins s σ H x y v u Q I rx ry h
  obtain ⟨a, b, xs, ys, rfl, rfl, h1, h2, he, q⟩ := h
  cases rx
  cases ry
  obtain ⟨i1, i2, p1, p2, l1, l2⟩ := two_lists I h1 h2
  show wpAny (model X.prog X.w) X.A (richCompare .Eq (.ref a) (.ref b)) _ _ s
  by_cases e : xs.length = ys.length
  · rw [decide_eq_true e] at q
    have z : i1 = [] ∧ i2 = [] := by
      constructor <;> apply List.eq_nil_of_length_eq_zero <;> rcases he with he | he <;> subst he <;> simp at e l1 l2 <;> simp_all
    obtain ⟨z1, z2⟩ := z
    subst z1
    subst z2
    exact SeqAt.RcAt.lists (e := fun _ => true) p1 p2 rfl (by omega) (fun j h _ => absurd h (by simp)) _ _ _ _ ⟨.bl true, H, I, rfl, q⟩
  · rw [decide_eq_false e] at q
    exact SeqAt.RcAt.lists_lengths p1 p2 (by rw [List.size_toArray, List.size_toArray, ← l1, ← l2]; simpa using e) (by omega) _ _ _ _ ⟨.bl false, H, I, rfl, q⟩
theorem opx_neE (hu : X.A.units + 1 < cLine) : OpR X (compareOp .NotEq) (xNeE X.K) := by
  intro pins s σ H x y v u Q I rx ry h
  obtain ⟨a, b, xs, ys, rfl, rfl, h1, h2, he, q⟩ := h
  cases rx
  cases ry
  obtain ⟨i1, i2, p1, p2, l1, l2⟩ := two_lists I h1 h2
  show wpAny (model X.prog X.w) X.A (richCompare .NotEq (.ref a) (.ref b)) _ _ s
  by_cases e : xs.length = ys.length
  · rw [decide_eq_true e] at q
    have z : i1 = [] ∧ i2 = [] := by
      constructor <;> apply List.eq_nil_of_length_eq_zero <;> rcases he with he | he <;> subst he <;> simp at e l1 l2 <;> simp_all
    obtain ⟨z1, z2⟩ := z
    subst z1
    subst z2
    exact SeqAt.RcNeAt.lists (e := fun _ => true) p1 p2 rfl (by omega) (fun j h _ => absurd h (by simp)) _ _ _ _ ⟨.bl false, H, I, rfl, q⟩
  · rw [decide_eq_false e] at q
    exact SeqAt.RcNeAt.lists_lengths p1 p2 (by rw [List.size_toArray, List.size_toArray, ← l1, ← l2]; simpa using e) (by omega) _ _ _ _ ⟨.bl true, H, I, rfl, q⟩
end

section
variable {X : Cx} {x : Str} {pos : Pos}
theorem pe_gint {i : Int} (hg : Gl X x) (hm : ∃ t, X.mg x = some (.int i t)) (hd : (x == ("__debug__" : Str)) = false := by decide) : PE X (.Name x pos) (tC (.int i)) := by
  obtain ⟨t, e⟩ := hm
  exact pe_glob hg e ⟨t, rfl⟩ hd
def tIsi (K : PySem.W.Frag) (c : String) (ta : TE) : TE := fun σ H Q => ta σ H fun x H1 => rIsi K [x, .ty c] H1 Q
theorem pe_isi {a b : Expr} {c : String} {ta : TE} {p pos : Pos} (hg : Gl X "isinstance") (hm : X.mg "isinstance" = none) (ha : PE X a ta) (hb : PE X b (tC (.ty c)))
    (e1 : starEach [a, b] X.env = (false, eval a X.env) :: starEach [b] X.env := by rfl) (e3 : starEach [b] X.env = (false, eval b X.env) :: starEach [] X.env := by rfl) (e2 : (backTo pos (starEach [b] X.env)).any (·.1) = false := by rfl) :
    PE X (.Call (.Name "isinstance" p) [a, b] [] pos) (tIsi X.K c ta) := pe_callB call_isi hg hm (by decide +kernel) (pa_cons ha (pa_cons hb pa_nil e3) e1) (by decide) (by decide) e1 e2
def tCB1 (r : List V → Hp → VK → Prop) (ta : TE) : TE := fun σ H Q => ta σ H fun x H1 => r [x] H1 Q
theorem pe_callB1 {a : Expr} {ta : TE} {r : List V → Hp → VK → Prop} {id : String} {p : Pos} (hc : CallR X (.builtin id) r) (hg : Gl X x) (hm : X.mg x = none) (hv : bootBuiltins x = some (.builtin id)) (ha : PE X a ta) (hn : x ≠ "__name__" := by decide) (hd : (x == ("__debug__" : Str)) = false := by decide)
    (e1 : starEach [a] X.env = (false, eval a X.env) :: starEach [] X.env := by rfl) : PE X (.Call (.Name x p) [a] [] pos) (tCB1 r ta) := pe_callB hc hg hm hv (pa_cons ha pa_nil e1) hn hd e1 rfl
theorem pe_callTy1 {a : Expr} {ta : TE} {r : List V → Hp → VK → Prop} {T : String} {p : Pos} (hc : CallR X (.type T) r) (hg : Gl X x) (hm : X.mg x = none) (hv : bootBuiltins x = some (.type T)) (ha : PE X a ta) (hn : x ≠ "__name__" := by decide) (hd : (x == ("__debug__" : Str)) = false := by decide)
    (e1 : starEach [a] X.env = (false, eval a X.env) :: starEach [] X.env := by rfl) : PE X (.Call (.Name x p) [a] [] pos) (tCB1 r ta) := pe_callTy hc hg hm hv (pa_cons ha pa_nil e1) hn hd e1 rfl
theorem isi_go {K : PySem.W.Frag} {c t : String} {x : V} {H : Hp} {Q : VK} {b : Bool} (ty : TyX K H x (.type t)) (h : kitB t c = some b) (q : Q (.bl b) H) : rIsi K [x, .ty c] H Q :=
  ⟨x, .ty c, _, _, b, rfl, .ty c, ty, kit_ty h, q⟩
end

section
variable {X : Cx}
end

def Can (P : Program) (w : World) (K : PySem.W.Frag) (mg : Str → Option Value) (base : Heap) (k : Nat) (at_ : Str × Option Str) (ps : List Str) (sp : Sp) : Prop :=
  ∃ fd, FnOk P w K mg base (L2.CX P w) k (He.fAd K at_) fd ps sp ∧ Binds K fd ps [] ∧ PySem.W.keepIn K (.ref (He.fAd K at_)) = true
section
variable {P : Program} {w : World} {K : PySem.W.Frag} {mg : Str → Option Value} {base : Heap} {k : Nat} {at_ : Str × Option Str} {ps : List Str} {sp sp' : Sp}
theorem Can.mono {j : Nat} (F : Can P w K mg base j at_ ps sp) (h : j ≤ k) : Can P w K mg base k at_ ps sp := by
  obtain ⟨fd, F, b, kp⟩ := F
  exact ⟨fd, F.mono h, b, kp⟩
theorem Can.imp (F : Can P w K mg base k at_ ps sp) (h : ∀ vs H Q E, sp' vs H Q E → sp vs H Q E) : Can P w K mg base k at_ ps sp' := by
  obtain ⟨fd, F, b, kp⟩ := F
  exact ⟨fd, F.imp h, b, kp⟩
def TupLe (H H' : Hp) : Prop := ∀ a xs, H a = some (.tup xs) → H' a = some (.tup xs)
theorem TupLe.refl (H : Hp) : TupLe H H := fun _ _ h => h
theorem TupLe.trans {H H1 H2 : Hp} (a : TupLe H H1) (b : TupLe H1 H2) : TupLe H H2 := fun x o h => b x o (a x o h)
theorem TupLe.same {H H' : Hp} (a : Same H H') : TupLe H H' := fun x o h => a x _ h
theorem TupLe.put {H H' : Hp} {p : Addr} {o : HO} (a : TupLe H H') (h : ∀ xs, H' p ≠ some (.tup xs)) : TupLe H (upd H' p o) := fun x xs e => by
  have e2 := a x xs e
  rw [upd_ne (fun z => by rw [z] at e2; exact h xs e2)]
  exact e2
end
section
variable {X : Cx} {k : Nat} {x C m : Str} {ps : List Str} {sp : Sp} {E : XK} {p pos apos : Pos} {e o : Expr} {es : List Expr} {ta : TE} {t : TA} {M : Option Str}
theorem pe_callC (F : Can X.prog X.w X.K X.mg X.base k (x, none) ps sp) (hr : Room k X.A) (hg : Gl X x) (hm : X.mg x = some (.ref (He.ga X.K x))) (hx : Passes (L2.CX X.prog X.w) X E)
    (ha : PA X (e :: es) t) (hdb : (x == ("__debug__" : Str)) = false := by decide) (he : starEach (e :: es) X.env = (false, eval e X.env) :: starEach es X.env := by rfl) (hpl : (backTo pos (starEach es X.env)).any (·.1) = false := by rfl) :
    PE X (.Call (.Name x p) (e :: es) [] pos) (tCall sp [] E t) := by
  obtain ⟨fd, F, b, kp⟩ := F
  exact pe_call F hr hg hm kp b .nil hx ha hdb he hpl
end
theorem can_of {P : Program} {w : World} {K : PySem.W.Frag} {mg : Str → Option Value} {base : Heap} {k : Nat} {x qual : Str} {at_ : Str × Option Str} {params : Arguments} {body : List Stmt} {scope : Scope} {N ps : List Str} {sp : Sp} {fd : FuncData}
    (F : FunD K x qual params body scope [] [] (He.fAd K at_) fd) (b : Binds K fd ps []) (S : FnScope N ps scope) (len : ∀ vs H Q E, sp vs H Q E → vs.length = ps.length)
    (t : XK → TS) (h : ∀ (cdv : Value) (A : Around) (outer : List Env) (s : Shared) (H : Hp) (E : XK), Room k (A.deeper (envOfC qual scope s.heap.objs.size (He.fAd K at_) cdv)) →
      PSs (cxOf (L2.CX P w) P w K mg base N qual scope (He.fAd K at_) cdv A outer s H E) body (t E))
    (pure_ : ∀ vs H Q E, sp vs H Q E → t E { nx := fun _ H' => Q .non H', rt := Q } (start N vs) H) : Can P w K mg base (k + 1) at_ ps sp :=
  ⟨fd, F.ok S len fun cdv A outer s H vs Q E hr hsp => ⟨t E, h cdv A outer s H E hr, pure_ vs H Q E hsp⟩, b, F.kp⟩

theorem can_false {P : Program} {w : World} {K : PySem.W.Frag} {mg : Str → Option Value} {base : Heap} {k : Nat} {x qual : Str} {at_ : Str × Option Str} {params : Arguments} {body : List Stmt} {scope : Scope} {ps : List Str} {sp : Sp} {fd : FuncData}
    (F : FunD K x qual params body scope [] [] (He.fAd K at_) fd) (b : Binds K fd ps []) (h : ∀ vs H Q E, ¬ sp vs H Q E) : Can P w K mg base k at_ ps sp :=
  ⟨fd, ⟨fun vs H Q E q => (h vs H Q E q).elim, fun A outer s H args us vs Q E hr he hb hv hs => (h vs H Q E hs).elim⟩, b, F.kp⟩
theorem can_rec {P : Program} {w : World} {K : PySem.W.Frag} {mg : Str → Option Value} {base : Heap} {lev : Nat} {x qual : Str} {at_ : Str × Option Str} {params : Arguments} {body : List Stmt} {scope : Scope} {N ps : List Str} {sp : Nat → Sp} {fd : FuncData}
    (F : FunD K x qual params body scope [] [] (He.fAd K at_) fd) (b : Binds K fd ps []) (S : FnScope N ps scope) (len : ∀ d vs H Q E, sp d vs H Q E → vs.length = ps.length) (no : ∀ vs H Q E, ¬ sp 0 vs H Q E)
    (t : Sp → XK → TS) (h : ∀ (d : Nat), Can P w K mg base (lev + d) at_ ps (sp d) → ∀ (cdv : Value) (A : Around) (outer : List Env) (s : Shared) (H : Hp) (E : XK), Room (lev + d) (A.deeper (envOfC qual scope s.heap.objs.size (He.fAd K at_) cdv)) →
      PSs (cxOf (L2.CX P w) P w K mg base N qual scope (He.fAd K at_) cdv A outer s H E) body (t (sp d) E))
    (pure_ : ∀ d vs H Q E, sp (d + 1) vs H Q E → t (sp d) E { nx := fun _ H' => Q .non H', rt := Q } (start N vs) H) : ∀ d, Can P w K mg base (lev + d) at_ ps (sp d)
  | 0 => can_false F b no
  | d + 1 => can_of F b S (len (d + 1)) (t (sp d)) (h d (can_rec F b S len no t h pure_ d)) (pure_ d)

end Rs

namespace Rs
open PySem PySem.Spec PyProof.Rows L2
section
variable {α β : Type} {F G : α → β → Prop}
theorem P2.get : ∀ {l : List α} {m : List β}, Paired F l m → ∀ {i : Nat} {a : α}, l[i]? = some a → ∃ b, m[i]? = some b ∧ F a b
  | _, _, .nil, _, _, e => by simp at e
  | _, _, .cons h t, 0, a, e => by simp at e; subst e; exact ⟨_, rfl, h⟩
  | _, _, .cons h t, i + 1, a, e => by simpa using P2.get t (i := i) (by simpa using e)
theorem P2.get' : ∀ {l : List α} {m : List β}, Paired F l m → ∀ {i : Nat} {b : β}, m[i]? = some b → ∃ a, l[i]? = some a ∧ F a b
  | _, _, .nil, _, _, e => by simp at e
  | _, _, .cons h t, 0, a, e => by simp at e; subst e; exact ⟨_, rfl, h⟩
  | _, _, .cons h t, i + 1, a, e => by simpa using P2.get' t (i := i) (by simpa using e)
theorem P2.mono (f : ∀ a b, F a b → G a b) : ∀ {l : List α} {m : List β}, Paired F l m → Paired G l m
  | _, _, .nil => .nil
  | _, _, .cons h t => .cons (f _ _ h) (P2.mono f t)
theorem P2.app : ∀ {l l' : List α} {m m' : List β}, Paired F l m → Paired F l' m' → Paired F (l ++ l') (m ++ m')
  | _, _, _, _, .nil, q => q
  | _, _, _, _, .cons h t, q => .cons h (P2.app t q)
theorem P2.one {a : α} {b : β} (h : F a b) : Paired F [a] [b] := .cons h .nil
theorem P2.take : ∀ (n : Nat) {l : List α} {m : List β}, Paired F l m → Paired F (l.take n) (m.take n)
  | 0, _, _, _ => .nil
  | _ + 1, _, _, .nil => .nil
  | n + 1, _, _, .cons h t => .cons h (P2.take n t)
theorem P2.drop : ∀ (n : Nat) {l : List α} {m : List β}, Paired F l m → Paired F (l.drop n) (m.drop n)
  | 0, _, _, q => q
  | _ + 1, _, _, .nil => .nil
  | n + 1, _, _, .cons h t => P2.drop n t
theorem P2.set {a : α} {b : β} (h : F a b) : ∀ (n : Nat) {l : List α} {m : List β}, Paired F l m → Paired F (l.set n a) (m.set n b)
  | _, _, _, .nil => .nil
  | 0, _, _, .cons _ t => .cons h t
  | n + 1, _, _, .cons q t => .cons q (P2.set h n t)
theorem P2.erase : ∀ (n : Nat) {l : List α} {m : List β}, Paired F l m → Paired F (l.eraseIdx n) (m.eraseIdx n)
  | _, _, _, .nil => .nil
  | 0, _, _, .cons _ t => t
  | n + 1, _, _, .cons q t => .cons q (P2.erase n t)
theorem P2.map {γ : Type} {f : γ → α} {g : γ → β} : ∀ (l : List γ), (∀ x ∈ l, F (f x) (g x)) → Paired F (l.map f) (l.map g)
  | [], _ => .nil
  | x :: l, h => .cons (h x (List.mem_cons_self ..)) (P2.map l fun y hy => h y (List.mem_cons_of_mem _ hy))
theorem P2.last {l : List α} {m : List β} {a : α} {b : β} (h : Paired F (l ++ [a]) (m ++ [b])) : F a b := by
  have e : (l ++ [a]).length = (m ++ [b]).length := h.length
  simp at e
  obtain ⟨b', h1, h2⟩ := P2.get h (i := l.length) (a := a) (by simp)
  rw [e] at h1
  simp at h1
  rw [h1]
  exact h2
end
abbrev Rel (α : Type) := Hp → V → α → Prop
def Stable {α : Type} (R : Rel α) : Prop := ∀ (H H' : Hp) (v : V) (x : α), TupLe H H' → R H v x → R H' v x
def IsTp (H : Hp) (v : V) (xs : List V) : Prop := ∃ a, v = .ref a ∧ H a = some (.tup xs)
theorem IsTp.mono {H H' : Hp} {v : V} {xs : List V} (t : TupLe H H') (h : IsTp H v xs) : IsTp H' v xs := let ⟨a, e, q⟩ := h; ⟨a, e, t a xs q⟩
abbrev Row := List Key
abbrev Pr := Int × Row
abbrev Ord := List (Nat × Bool)
def wayS (b : Bool) : Str := if b = true then "up" else "down"
def RowAt : Rel Row := fun H v r => IsTp H v (r.map kV)
def PairAt : Rel Pr := fun H v p => ∃ w, IsTp H v [.int p.1, w] ∧ RowAt H w p.2
def TurnAt : Rel (Nat × Bool) := fun H v t => IsTp H v [.int (t.1 : Int), .str (wayS t.2)]
def IntAt : Rel Int := fun _ v i => v = .int i
def KeyAt : Rel Key := fun _ v i => v = kV i
theorem RowAt.st : Stable RowAt := fun _ _ _ _ t h => IsTp.mono t h
theorem PairAt.st : Stable PairAt := fun _ _ _ _ t ⟨w, a, b⟩ => ⟨w, a.mono t, b.mono t⟩
theorem TurnAt.st : Stable TurnAt := fun _ _ _ _ t h => IsTp.mono t h
theorem IntAt.st : Stable IntAt := fun _ _ _ _ _ h => h
theorem KeyAt.st : Stable KeyAt := fun _ _ _ _ _ h => h
def Lst {α : Type} (R : Rel α) (H : Hp) (l : Addr) (xs : List α) : Prop := ∃ vs, H l = some (.lst vs) ∧ Paired (R H) vs xs
def LstV {α : Type} (R : Rel α) : Rel (List α) := fun H v xs => ∃ l, v = .ref l ∧ Lst R H l xs
section
variable {α : Type} {R : Rel α} {H H' : Hp} {l : Addr} {xs : List α}
theorem Lst.len (h : Lst R H l xs) : ∃ vs, H l = some (.lst vs) ∧ vs.length = xs.length := let ⟨vs, a, b⟩ := h; ⟨vs, a, b.length⟩
theorem Paired.tl (s : Stable R) (t : TupLe H H') {vs : List V} (h : Paired (R H) vs xs) : Paired (R H') vs xs := P2.mono (fun v x q => s H H' v x t q) h
theorem Lst.keep (s : Stable R) (t : TupLe H H') (h : Lst R H l xs) (e : ∀ o, H l = some o → H' l = some o) : Lst R H' l xs := let ⟨vs, a, b⟩ := h; ⟨vs, e _ a, Paired.tl s t b⟩
theorem Lst.same (s : Stable R) (k : Same H H') (h : Lst R H l xs) : Lst R H' l xs := h.keep s (TupLe.same k) fun o => k l o
theorem LstV.same (s : Stable R) (k : Same H H') {v : V} (h : LstV R H v xs) : LstV R H' v xs := let ⟨l, e, q⟩ := h; ⟨l, e, q.same s k⟩
end
theorem Same.new {H : Hp} {p : Addr} {o : HO} (h : H p = none) : Same H (upd H p o) := fun a u e => by
  rw [upd_ne (ne_of_none e h)]
  exact e
theorem Same.mut {H H' : Hp} {p : Addr} {o : HO} (e : Same H H') (h : H p = none) : Same H (upd H' p o) := fun a u ha => by
  rw [upd_ne (ne_of_none ha h)]
  exact e a u ha
theorem TupLe.new {H : Hp} {p : Addr} {o : HO} (h : H p = none) : TupLe H (upd H p o) := TupLe.same (Same.new h)
theorem TupLe.list {H H' : Hp} {p : Addr} {o : HO} {vs : List V} (a : TupLe H H') (h : H' p = some (.lst vs)) : TupLe H (upd H' p o) := a.put fun xs e => by rw [h] at e; cases e
def But (S : List Addr) (H H' : Hp) : Prop := ∀ b o, H b = some o → b ∉ S → H' b = some o
theorem But.refl (S : List Addr) (H : Hp) : But S H H := fun _ _ h _ => h
theorem But.trans {S : List Addr} {H H1 H2 : Hp} (a : But S H H1) (b : But S H1 H2) : But S H H2 := fun c o h n => b c o (a c o h n) n
theorem But.same {S : List Addr} {H H1 : Hp} (a : Same H H1) : But S H H1 := fun c o h _ => a c o h
theorem But.new {S : List Addr} {H H1 : Hp} {p : Addr} {o : HO} (a : But S H H1) (h : H1 p = none) : But S H (upd H1 p o) := fun c u e n => by
  have e2 := a c u e n
  rw [upd_ne (ne_of_none e2 h)]
  exact e2
theorem But.put {S : List Addr} {H H1 : Hp} {p : Addr} {o : HO} (a : But S H H1) (h : p ∈ S) : But S H (upd H1 p o) := fun c u e n => by
  rw [upd_ne (fun z => n (by rw [z]; exact h))]
  exact a c u e n
end Rs
namespace Rs
open PySem PySem.Spec PyProof.Rows L2
theorem But.mut {S : List Addr} {H H1 : Hp} {p : Addr} {o : HO} (a : But S H H1) (h : H p = none) : But S H (L2.upd H1 p o) := fun c u e n => by
  rw [upd_ne (ne_of_none e h)]
  exact a c u e n
theorem But.wide {S T : List Addr} {H H1 : Hp} (a : But S H H1) (h : ∀ x ∈ S, x ∈ T) : But T H H1 := fun c u e n => a c u e fun z => n (h c z)
theorem But.fresh {S : List Addr} {H H0 H1 : Hp} (a : But S H H1) (s : Same H0 H) (h : ∀ x ∈ S, H0 x = none) : Same H0 H1 := fun c u e => a c u (s c u e) fun z => by
  rw [h c z] at e
  cases e
theorem none_of_but {S : List Addr} {H H1 : Hp} {p : Addr} (a : But S H H1) (h : H1 p = none) (n : p ∉ S) : H p = none := by
  cases q : H p with
  | none => rfl
  | some o =>
    rw [a p o q n] at h
    cases h
theorem ixN_nat {n j : Nat} (h : j < n) : ixN n (j : Int) = some j := by
  unfold ixN
  rw [if_pos (by omega), if_pos (by omega)]
  simp
section
variable {K : PySem.W.Frag} {H : Hp} {Q : VK} {x v : V} {xs : List V} {i : Int} {j : Nat}
theorem ixT (h : IsTp H x xs) (hi : i = (j : Int)) (e : xs[j]? = some v) (q : Q v H) : rIxT K x (.int i) H Q := by
  obtain ⟨a, rfl, h⟩ := h
  exact ⟨a, xs, i, v, rfl, rfl, SqT.of h, at_of hi e, q⟩
theorem ixL {a : Addr} (h : H a = some (.lst xs)) (hi : i = (j : Int)) (e : xs[j]? = some v) (q : Q v H) : rIxL K (.ref a) (.int i) H Q := ⟨a, xs, i, v, rfl, rfl, SqL.of h, at_of hi e, q⟩
theorem lenL {a : Addr} (h : H a = some (.lst xs)) {n : Int} (e : n = (xs.length : Int)) (q : Q (.int n) H) : xLen K [.ref a] H Q := by
  subst e
  exact ⟨a, xs, rfl, .inl (SqL.of h), q⟩
theorem lenT (h : IsTp H x xs) {n : Int} (e : n = (xs.length : Int)) (q : Q (.int n) H) : xLen K [x] H Q := by
  subst e
  obtain ⟨a, rfl, h⟩ := h
  exact ⟨a, xs, rfl, .inr (SqT.of h), q⟩
theorem neE {a p : Addr} (h : H a = some (.lst xs)) (hp : H p = none) {b : Bool} (e : b = !xs.isEmpty) (q : Q (.bl b) (upd H p (.lst []))) : xNeE K (.ref a) (.ref p) (upd H p (.lst [])) Q := by
  subst e
  refine ⟨a, p, xs, [], rfl, rfl, SqL.of (by rw [upd_ne (ne_of_none h hp)]; exact h), SqL.of upd_same, .inr rfl, ?_⟩
  cases xs <;> exact q
theorem eqE {a p : Addr} (h : H a = some (.lst xs)) (hp : H p = none) {b : Bool} (e : b = xs.isEmpty) (q : Q (.bl b) (upd H p (.lst []))) : xEqE K (.ref a) (.ref p) (upd H p (.lst [])) Q := by
  subst e
  refine ⟨a, p, xs, [], rfl, rfl, SqL.of (by rw [upd_ne (ne_of_none h hp)]; exact h), SqL.of upd_same, .inr rfl, ?_⟩
  cases xs <;> exact q
end
theorem lc_yes {σ : L2.St} {H : Hp} {A B : Hp → Prop} (h : A H) : tYes σ H (fun b H3 => if b = true then A H3 else B H3) := by
  show if true = true then A H else B H
  rw [if_pos rfl]
  exact h
theorem sz0 : (0 : Nat) ≤ sizeLine := Nat.zero_le _
theorem szle {n : Nat} (h : n ≤ 100000) : n ≤ sizeLine := Nat.le_trans h (by decide)
theorem szlt {n : Nat} (h : n < 100000) : n < sizeLine := Nat.lt_of_lt_of_le h (by decide)
def keyLt : Key → Key → Bool
  | .inl i, .inl j => decide (i < j)
  | .inr s, .inr t => decide (s.cps.toList < t.cps.toList)
  | _, _ => false
def kcol (r : Row) (c : Nat) : Key := r.getD c (.inl 0)
def before : Ord → Pr → Pr → Bool
  | [], p, q => decide (p.1 < q.1)
  | t :: o, p, q => if kcol p.2 t.1 = kcol q.2 t.1 then before o p q else (keyLt (kcol p.2 t.1) (kcol q.2 t.1) == t.2)
def Cmp (o : Ord) (p q : Row) : Prop := ∀ t ∈ o, t.1 < p.length ∧ t.1 < q.length ∧ (kcol p t.1).isLeft = (kcol q t.1).isLeft
theorem str_ext {s t : Str} (h : s.cps.toList = t.cps.toList) : s = t := by
  cases s; cases t
  simp at h
  subst h
  rfl
theorem keyLt_irrefl (x : Key) : keyLt x x = false := by
  cases x <;> simp [keyLt]
theorem keyLt_trans {x y z : Key} (a : keyLt x y = true) (b : keyLt y z = true) : keyLt x z = true := by
  cases x <;> cases y <;> cases z <;> simp [keyLt] at a b ⊢
  · omega
  · exact List.lt_trans a b
theorem keyLt_tot {x y : Key} (h : x.isLeft = y.isLeft) (n : x ≠ y) : keyLt y x = !keyLt x y := by
  cases x <;> cases y
  · simp only [keyLt]
    rename_i i j
    have : i ≠ j := fun e => n (by rw [e])
    by_cases e : i < j
    · rw [decide_eq_true e, decide_eq_false (by omega)]; rfl
    · rw [decide_eq_false e, decide_eq_true (by omega)]; rfl
  · cases h
  · cases h
  · simp only [keyLt]
    rename_i s t
    by_cases e : s.cps.toList < t.cps.toList
    · rw [decide_eq_true e, decide_eq_false (fun z => List.lt_irrefl _ (List.lt_trans e z))]; rfl
    · have : t.cps.toList < s.cps.toList := by
        rcases Std.lt_trichotomy s.cps.toList t.cps.toList with h1 | h1 | h1
        · exact absurd h1 e
        · exact absurd (by rw [str_ext h1]) n
        · exact h1
      rw [decide_eq_false e, decide_eq_true this]; rfl
theorem newS {H H1 : Hp} {q : Addr} {o : HO} (h : H q = none) (e : L2.upd H q o = H1) : Same H H1 := by
  subst e
  exact Rs.Same.new h
theorem newE {H H1 : Hp} {q : Addr} {o : HO} (e : L2.upd H q o = H1) : H1 q = some o := by
  subst e
  exact upd_same
end Rs

namespace Rs
open PySem PySem.Spec PyProof.Rows L2
def letters : List Nat := ("abcdefghijklmnopqrstuvwxyz" : Str).cps.toList
def isValue (k : Str) : Key → Bool
  | .inl i => decide (k ≠ "word") && (decide (-999 ≤ i) && decide (i ≤ 999))
  | .inr s => decide (k = "word") && (decide (s.length ≤ 6) && s.cps.toList.all fun c => decide (c ∈ letters))
def isRow (ks : List Str) (r : Row) : Bool := decide (r.length = ks.length) && (List.range ks.length).all fun i => isValue (ks.getD i "") (kcol r i)
structure GoodKinds (ks : List Str) : Prop where
  pos : 1 ≤ ks.length
  le : ks.length ≤ 4
  all : ∀ k ∈ ks, k = "number" ∨ k = "word"
structure GoodOrd (ks : List Str) (o : Ord) : Prop where
  ne : o ≠ []
  col : ∀ t ∈ o, t.1 < ks.length
  nd : (o.map (·.1)).Nodup
theorem isRow_len {ks : List Str} {r : Row} (h : isRow ks r = true) : r.length = ks.length := by
  unfold isRow at h
  simp only [Bool.and_eq_true, decide_eq_true_eq] at h
  exact h.1
theorem isRow_val {ks : List Str} {r : Row} (h : isRow ks r = true) {i : Nat} (hi : i < ks.length) : isValue (ks.getD i "") (kcol r i) = true := by
  unfold isRow at h
  simp only [Bool.and_eq_true, decide_eq_true_eq, List.all_eq_true, List.mem_range] at h
  exact h.2 i hi
theorem isValue_left {k : Str} {x y : Key} (a : isValue k x = true) (b : isValue k y = true) : x.isLeft = y.isLeft := by
  cases x <;> cases y <;> simp [isValue] at a b ⊢
  · exact absurd b.1 a.1
  · exact absurd a.1 b.1
theorem cmp_of {ks : List Str} {o : Ord} {p q : Row} (ho : ∀ t ∈ o, t.1 < ks.length) (hp : isRow ks p = true) (hq : isRow ks q = true) : Cmp o p q := fun t ht => by
  have h := ho t ht
  exact ⟨by rw [isRow_len hp]; exact h, by rw [isRow_len hq]; exact h, isValue_left (isRow_val hp h) (isRow_val hq h)⟩
theorem Cmp.tail {t : Nat × Bool} {o : Ord} {p q : Row} (h : Cmp (t :: o) p q) : Cmp o p q := fun u hu => h u (List.mem_cons_of_mem _ hu)
theorem Cmp.head {t : Nat × Bool} {o : Ord} {p q : Row} (h : Cmp (t :: o) p q) : (kcol p t.1).isLeft = (kcol q t.1).isLeft := (h t (List.mem_cons_self ..)).2.2
theorem before_trans : ∀ (o : Ord) {p q r : Pr}, Cmp o p.2 q.2 → Cmp o q.2 r.2 → before o p q = true → before o q r = true → before o p r = true
  | [], p, q, r, _, _, a, b => by
    simp [before] at a b ⊢
    omega
  | t :: o, p, q, r, c1, c2, a, b => by
    unfold before at a b ⊢
    have h1 := c1.head
    have h2 := c2.head
    by_cases e1 : kcol p.2 t.1 = kcol q.2 t.1
    · rw [if_pos e1] at a
      by_cases e2 : kcol q.2 t.1 = kcol r.2 t.1
      · rw [if_pos e2] at b
        rw [if_pos (e1.trans e2)]
        exact before_trans o c1.tail c2.tail a b
      · rw [if_neg e2] at b
        rw [e1, if_neg e2]
        exact b
    · rw [if_neg e1] at a
      by_cases e2 : kcol q.2 t.1 = kcol r.2 t.1
      · rw [← e2, if_neg e1]
        exact a
      · rw [if_neg e2] at b
        have ea := beq_iff_eq.mp a
        have eb := beq_iff_eq.mp b
        have t1 := keyLt_tot h1 e1
        have t2 := keyLt_tot h2 e2
        cases ht : t.2 with
        | true =>
          rw [ht] at ea eb
          have tr := keyLt_trans ea eb
          rw [if_neg (fun z => by rw [z, keyLt_irrefl] at tr; cases tr), tr]
          rfl
        | false =>
          rw [ht] at ea eb
          rw [ea] at t1
          rw [eb] at t2
          have tr := keyLt_trans t2 t1
          have ne : kcol p.2 t.1 ≠ kcol r.2 t.1 := fun z => by rw [z, keyLt_irrefl] at tr; cases tr
          rw [if_neg ne]
          have t3 := keyLt_tot (h1.trans h2) ne
          rw [tr] at t3
          cases hk : keyLt (kcol p.2 t.1) (kcol r.2 t.1) with
          | false => rfl
          | true => rw [hk] at t3; cases t3
theorem before_tot : ∀ (o : Ord) {p q : Pr}, Cmp o p.2 q.2 → p.1 ≠ q.1 → before o q p = !before o p q
  | [], p, q, _, n => by
    simp only [before]
    by_cases e : p.1 < q.1
    · rw [decide_eq_true e, decide_eq_false (by omega)]; rfl
    · rw [decide_eq_false e, decide_eq_true (by omega)]; rfl
  | t :: o, p, q, c, n => by
    unfold before
    by_cases e1 : kcol p.2 t.1 = kcol q.2 t.1
    · rw [if_pos e1, if_pos e1.symm]
      exact before_tot o c.tail n
    · rw [if_neg e1, if_neg fun z => e1 z.symm, keyLt_tot c.head e1]
      cases keyLt (kcol p.2 t.1) (kcol q.2 t.1) <;> cases t.2 <;> rfl
structure Fine (ks : List Str) (xs : List Pr) : Prop where
  row : ∀ p ∈ xs, isRow ks p.2 = true
  nd : (xs.map (·.1)).Nodup
theorem Fine.perm {ks : List Str} {xs ys : List Pr} (h : Fine ks xs) (p : ys.Perm xs) : Fine ks ys := ⟨fun q hq => h.row q (p.mem_iff.mp hq), (p.map (·.1)).nodup_iff.mpr h.nd⟩
theorem Fine.sub {ks : List Str} {xs ys : List Pr} (h : Fine ks xs) (s : ys.Sublist xs) : Fine ks ys := ⟨fun q hq => h.row q (s.subset hq), h.nd.sublist (s.map (·.1))⟩
theorem Fine.take {ks : List Str} {xs : List Pr} (h : Fine ks xs) (n : Nat) : Fine ks (xs.take n) := h.sub (List.take_sublist _ _)
theorem Fine.drop {ks : List Str} {xs : List Pr} (h : Fine ks xs) (n : Nat) : Fine ks (xs.drop n) := h.sub (List.drop_sublist _ _)
def Up (o : Ord) (xs : List Pr) : Prop := xs.Pairwise fun p q => before o p q = true
end Rs

namespace Rs
open PySem PySem.Spec PyProof.Rows L2
structure Box (H : Hp) (a l : Addr) : Prop where
  ex : ∃ (ns : List Int) (st : Int), H a = some (.lst [.ref l, .int st]) ∧ H l = some (.lst (ns.map V.int)) ∧ 0 ≤ st
theorem Box.ne {H : Hp} {a l : Addr} (b : Box H a l) : a ≠ l := by
  obtain ⟨ns, st, h1, h2, _⟩ := b.ex
  intro e
  subst e
  rw [h1] at h2
  cases ns with
  | nil => cases h2
  | cons n ns => cases h2
theorem Box.keep {H H' : Hp} {a l : Addr} (b : Box H a l) (h1 : ∀ o, H a = some o → H' a = some o) (h2 : ∀ o, H l = some o → H' l = some o) : Box H' a l := by
  obtain ⟨ns, st, e1, e2, h⟩ := b.ex
  exact ⟨ns, st, h1 _ e1, h2 _ e2, h⟩
theorem Box.same {H H' : Hp} {a l : Addr} (b : Box H a l) (s : Same H H') : Box H' a l := b.keep (fun o => s a o) fun o => s l o
theorem Box.tup {H H' : Hp} {a l : Addr} (b : Box H a l) (k : But [a, l] H H') : TupLe H H' := fun c xs e => by
  obtain ⟨ns, st, e1, e2, h⟩ := b.ex
  refine k c _ e ?_
  intro hm
  simp at hm
  rcases hm with rfl | rfl
  · rw [e1] at e; cases e
  · rw [e2] at e; cases e
theorem un {H : Hp} {a p : Addr} {o u : HO} (h : H a = some o) (hp : H p = none) : upd H p u a = some o := by
  rw [upd_ne (ne_of_none h hp)]
  exact h
theorem up {H : Hp} {a p : Addr} {o u : HO} (h : H a = some o) (hp : a ≠ p) : upd H p u a = some o := by
  rw [upd_ne hp]
  exact h
theorem nn {a b c : Addr} (h1 : a ≠ b) (h2 : a ≠ c) : a ∉ [b, c] := by
  intro hm
  simp at hm
  rcases hm with h | h
  · exact h1 h
  · exact h2 h
abbrev N_law_begun : List Str := ["_law_script", "_law_stirred", "_law_cell"]
abbrev P_law_begun : List Str := ["_law_script"]
def sp_law_begun (K : PySem.W.Frag) : Sp := fun vs H Q E => match vs with
  | [s] => ∃ (p : Addr) (ns : List Int), s = .ref p ∧ SqL K H p (ns.map V.int) ∧ ns.length ≤ 63 ∧ ∀ a l H', H a = none → H l = none → Box H' a l → Same H H' → Q (.ref a) H'
  | _ => False
def t_law_begun (K : PySem.W.Frag) (E : XK) : TS := (tSeq (tAsg (tC (.int 0)) (gName 1))
  (tSeq (tFor (iList K (tVar 0)) (gName 2) (tAsg (tOpC xMod (tOpC xAdd (tOp xAdd (tOpC xMul (tVar 1) (.int 48271)) (tOpC xMul (tVar 2) (.int 69621))) (.int 11)) (.int 2147483647)) (gName 1)))
   (tRet (tLst (tCons (tCB1 (xList K) (tVar 0)) (tCons (tOp xMul (tVar 1) (tCB1 xInt (tOpC xGt (tCB1 (xLen K) (tVar 0)) (.int 2)))) tNil))))))
theorem pure_law_begun {K : PySem.W.Frag} : ∀ vs H Q E, sp_law_begun K vs H Q E → t_law_begun K E { nx := fun _ H' => Q .non H', rt := Q } (start N_law_begun vs) H := by
  intro vs H Q E h
  match vs, h with
  | [s], h =>
    obtain ⟨p, ns, rfl, hs, hlen, k⟩ := h
    refine ⟨_, rfl, p, rfl, ⟨_, hs⟩, for_list (K := K) (a := p) (xs := ns.map V.int) (fun i σ H' => ∃ (st : Int) (x2 : Option V), σ = [some (.ref p), some (.int st), x2] ∧ H' = H ∧ 0 ≤ st) ⟨0, none, rfl, rfl, Int.le_refl _⟩ ?_ ?_ ?_⟩
    · rintro i σ H' _ ⟨_, _, _, rfl, _⟩
      exact hs
    · rintro i v σ H' hi ⟨st, x2, rfl, rfl, h0⟩
      rw [List.getElem?_map] at hi
      obtain ⟨n, hn, rfl⟩ := Option.map_eq_some_iff.mp hi
      refine ⟨_, rfl, _, _, rfl, rfl, .inr ⟨by decide, by decide⟩, _, rfl, _, _, rfl, rfl, .inr ⟨by decide, by decide⟩, _, _, rfl, rfl, _, _, rfl, rfl, _, _, rfl, rfl, by show (0 : Int) < 2147483647; decide, ?_⟩
      exact ⟨_, _, rfl, rfl, Int.emod_nonneg _ (by decide)⟩
    · rintro σ H' ⟨st, x2, rfl, rfl, h0⟩
      refine ⟨_, rfl, p, _, rfl, .inl hs, fun l hl => ?_⟩
      have hs1 : SqL K (upd H' l (.lst (ns.map V.int))) p (ns.map V.int) := Same.seq (Rs.Same.new hl) hs
      refine ⟨_, rfl, _, rfl, p, _, rfl, .inl hs1, _, _, rfl, rfl, .inr ⟨_, rfl, ?_⟩⟩
      have hb : ∀ b : Bool, CMul st (if b = true then 1 else 0) := fun b => by cases b <;> exact .inr ⟨by decide, by decide⟩
      refine ⟨_, _, rfl, rfl, hb _, szle (by show 2 ≤ 100000; decide), fun a ha => ?_⟩
      have nal : l ≠ a := ne_of_none upd_same ha
      have hz : ∀ b : Bool, 0 ≤ st * (if b = true then (1 : Int) else 0) := fun b => by cases b <;> simp [h0]
      refine k a l _ (none_of_but (S := []) (But.same (Rs.Same.new hl)) ha (by simp)) hl ⟨ns, _, upd_same, by rw [upd_ne nal]; exact upd_same, hz _⟩ (Same.trans (Rs.Same.new hl) (Rs.Same.new ha))
abbrev N_law_take : List Str := ["_law_box", "_law_many", "_law_number"]
abbrev P_law_take : List Str := ["_law_box", "_law_many"]
def sp_law_take (K : PySem.W.Frag) : Sp := fun vs H Q E => match vs with
  | [b, m] => ∃ a l n, b = .ref a ∧ m = .int n ∧ 0 < n ∧ n ≤ 1000000000000000000 ∧ Box H a l ∧ ∀ r H', 0 ≤ r → r < n → Box H' a l → But [a, l] H H' → Q (.int r) H'
  | _ => False
def t_law_take (K : PySem.W.Frag) (E : XK) : TS := (tSeq (tIfS (tTest (tOp (xEqE K) (tOpC (rIxL K) (tVar 0) (.int 0)) (tLst tNil))) 
    (tSeq (tAsg (tOpC xMod (tOpC xMul (tOpC (rIxL K) (tVar 0) (.int 1)) (.int 48271)) (.int 2147483647)) (gSubC (tVar 0) (.int 1) rSetL))
    (tRet (tOp xMod (tOpC xDiv (tOpC (rIxL K) (tVar 0) (.int 1)) (.int 7)) (tVar 1)))) tNext)
  (tSeq (tAsg (tOpC (rIxL K) (tOpC (rIxL K) (tVar 0) (.int 0)) (.int 0)) (gName 2))
   (tSeq (tAsg (tOp xDiv (tVar 2) (tVar 1)) (gSubC (tOpC (rIxL K) (tVar 0) (.int 0)) (.int 0) rSetL))
    (tSeq (tIfS (tOr (tTest (tOpC rEq (tOpC (rIxL K) (tOpC (rIxL K) (tVar 0) (.int 0)) (.int 0)) (.int 0))) (tTest (tOpC rEq (tOpC (rIxL K) (tOpC (rIxL K) (tVar 0) (.int 0)) (.int 0)) (.int (-1))))) (tDrop (tBM K "list" rPopAt (tOpC (rIxL K) (tVar 0) (.int 0)) (tConsC (.int 0) tNil))) tNext)
     (tRet (tOp xMod (tVar 2) (tVar 1)))))))
theorem ixN_zero {n : Nat} : ixN (n + 1) 0 = some 0 := by
  unfold ixN
  rw [if_pos (by omega), if_pos (by omega)]
  rfl
theorem seqIx {n j : Nat} (h : j < n) : seqIndex? (j : Int) n = some j := (ixN_seq (ixN_nat h)).1
theorem div_ok {i j : Int} (h : 0 < j) (h2 : j ≤ 1000000000000000000) : CDivW i j := wide_div (b := 60) h (by omega) (by decide) (by decide)
theorem pure_law_take {K : PySem.W.Frag} : ∀ vs H Q E, sp_law_take K vs H Q E → t_law_take K E { nx := fun _ H' => Q .non H', rt := Q } (start N_law_take vs) H := by
  intro vs H Q E h
  match vs, h with
  | [b, m], h =>
    obtain ⟨a, l, n, rfl, rfl, hn, hn2, B, k⟩ := h
    have nal := B.ne
    obtain ⟨ns, st, ha, hl, h0⟩ := B.ex
    refine ⟨_, rfl, ixL ha (j := 0) rfl rfl ⟨sz0, fun p hp => ?_⟩⟩
    have ha1 : upd H p (.lst []) a = _ := un ha hp
    have hl1 : upd H p (.lst []) l = _ := un hl hp
    have s1 : But [a, l] H (upd H p (.lst [])) := But.same (Rs.Same.new hp)
    cases ns with
    | nil =>
      refine eqE hl hp (b := true) rfl ⟨_, rfl, ?_⟩
      refine ⟨_, rfl, ixL ha1 (j := 1) rfl rfl ⟨_, _, rfl, rfl, .inr ⟨by decide, by decide⟩, _, _, rfl, rfl, by show (0 : Int) < 2147483647; decide, ?_⟩⟩
      refine ⟨_, rfl, _, _, _, 1, rfl, rfl, ha1, rfl, ?_⟩
      refine ⟨_, rfl, ixL (j := 1) upd_same rfl rfl ⟨_, _, rfl, rfl, div_ok (by decide) (by decide), _, rfl, _, _, rfl, rfl, hn, ?_⟩⟩
      exact k _ _ (Int.emod_nonneg _ (by omega)) (Int.emod_lt_of_pos _ hn) ⟨[], _, upd_same, by rw [upd_ne nal.symm]; exact hl1, Int.emod_nonneg _ (by decide)⟩ (s1.put (by simp))
    | cons x ns =>
      refine eqE hl hp (b := false) rfl ⟨_, rfl, ?_⟩
      refine ⟨_, rfl, ixL ha1 (j := 0) rfl rfl (ixL hl1 (j := 0) rfl rfl ?_)⟩
      refine ⟨_, rfl, _, rfl, _, _, rfl, rfl, div_ok hn hn2, ?_⟩
      refine ⟨_, rfl, ixL ha1 (j := 0) rfl rfl ⟨_, _, _, 0, rfl, rfl, hl1, ixN_zero, ?_⟩⟩
      have ha2 : upd (upd H p (.lst [])) l (.lst (((x :: ns).map V.int).set 0 (.int (x / n)))) a = _ := up ha1 nal
      have hl2 : upd (upd H p (.lst [])) l (.lst (((x :: ns).map V.int).set 0 (.int (x / n)))) l = some (.lst (((x / n) :: ns).map V.int)) := upd_same
      have s2 : But [a, l] H (upd (upd H p (.lst [])) l (.lst (((x :: ns).map V.int).set 0 (.int (x / n))))) := s1.put (by simp)
      have fin : ∀ H', Box H' a l → But [a, l] H H' → Q (.int (x % n)) H' := fun H' b' k' => k _ _ (Int.emod_nonneg _ (by omega)) (Int.emod_lt_of_pos _ hn) b' k'
      have pop : ∀ D : Ends, (∀ σ H', Box H' a l → But [a, l] H H' → σ = [some (.ref a), some (.int n), some (.int x)] → D.nx σ H') → tDrop (tBM K "list" rPopAt (tOpC (rIxL K) (tVar 0) (.int 0)) (tConsC (.int 0) tNil)) D [some (.ref a), some (.int n), some (.int x)] (upd (upd H p (.lst [])) l (.lst (((x :: ns).map V.int).set 0 (.int (x / n))))) := fun D hD => by
        refine ⟨_, rfl, ixL ha2 (j := 0) rfl rfl ⟨.inl ⟨rfl, _, SqL.of hl2⟩, _, _, _, 0, _, rfl, rfl, hl2, by decide, by decide, seqIx (Nat.zero_lt_succ _), rfl, ?_⟩⟩
        refine hD _ _ ⟨ns, st, up ha2 nal, upd_same, h0⟩ (s2.put (by simp)) rfl
      refine ⟨_, rfl, ixL ha2 (j := 0) rfl rfl (ixL hl2 (j := 0) rfl rfl ⟨rfl, _, rfl, ?_⟩)⟩
      by_cases e : (V.int (x / n)) = .int 0
      · rw [decide_eq_true e]
        refine pop _ fun σ H' b' k' e' => ?_
        subst e'
        exact ⟨_, rfl, _, rfl, _, _, rfl, rfl, hn, fin _ b' k'⟩
      · rw [decide_eq_false e]
        refine ⟨_, rfl, ixL ha2 (j := 0) rfl rfl (ixL hl2 (j := 0) rfl rfl ⟨rfl, _, rfl, ?_⟩)⟩
        by_cases e' : (V.int (x / n)) = .int (-1)
        · rw [decide_eq_true e']
          refine pop _ fun σ H' b' k' e' => ?_
          subst e'
          exact ⟨_, rfl, _, rfl, _, _, rfl, rfl, hn, fin _ b' k'⟩
        · rw [decide_eq_false e']
          exact ⟨_, rfl, _, rfl, _, _, rfl, rfl, hn, fin _ ⟨(x / n) :: ns, st, ha2, hl2, h0⟩ s2⟩
def KindsAt : Rel (List Str) := fun H v ks => IsTp H v (ks.map V.str)
end Rs

namespace Rs
open PySem PySem.Spec PyProof.Rows L2
theorem nodup_cast : ∀ {l : List Nat}, l.Nodup → (l.map fun (n : Nat) => (n : Int)).Nodup
  | [], _ => by simp
  | a :: l, h => by
    rw [List.map_cons, List.nodup_cons]
    obtain ⟨h1, h2⟩ := List.nodup_cons.mp h
    refine ⟨fun hm => ?_, nodup_cast h2⟩
    obtain ⟨b, hb, e⟩ := List.mem_map.mp hm
    exact h1 (by have : b = a := by omega
                 rw [← this]; exact hb)
theorem filter_nil_all {α : Type} (p : α → Bool) : ∀ l : List α, (l.filter fun x => !p x).isEmpty = l.all p
  | [] => rfl
  | a :: l => by
    rw [List.filter_cons, List.all_cons]
    cases p a
    · rfl
    · simpa using filter_nil_all p l
def RowSz (r : Row) : Prop := r.length ≤ 1000 ∧ ∀ s, Sum.inr s ∈ r → s.length ≤ 1000
theorem RowSz.of {ks : List Str} {r : Row} (h : isRow ks r = true) (hk : ks.length ≤ 4) : RowSz r := by
  refine ⟨by rw [isRow_len h]; omega, fun s hs => ?_⟩
  obtain ⟨i, hi, e⟩ := List.mem_iff_getElem.mp hs
  have v := isRow_val h (i := i) (by rw [← isRow_len h]; exact hi)
  have ek : kcol r i = .inr s := by
    unfold kcol
    rw [List.getD_eq_getElem?_getD, List.getElem?_eq_getElem hi, e]
    rfl
  rw [ek] at v
  simp only [isValue, Bool.and_eq_true, decide_eq_true_eq] at v
  omega
def mrg (o : Ord) : List Pr → List Pr → List Pr
  | xs, [] => xs
  | xs, y :: ys => (xs.takeWhile fun x => before o x y) ++ y :: mrg o (xs.dropWhile fun x => before o x y) ys
theorem cut_from {xs : List V} {n : Nat} (h : n ≤ xs.length) : cutV xs (some (n : Int)) none = xs.drop n := by
  unfold cutV
  rw [HT.sIx_nat, HT.sIx_none, Nat.min_eq_left h]
  exact List.take_of_length_le (by rw [List.length_drop]; exact Nat.le_refl _)
theorem cut_to {xs : List V} {n : Nat} (h : n ≤ xs.length) : cutV xs none (some (n : Int)) = xs.take n := by
  unfold cutV
  rw [HT.sIx_nat, HT.sIx_none, Nat.min_eq_left h, List.drop_zero]
  rfl
end Rs

namespace Rs
open PySem PySem.Spec PyProof.Rows L2
theorem Fine.left {ks : List Str} {xs ys : List Pr} (h : Fine ks (xs ++ ys)) : Fine ks xs := h.sub (List.sublist_append_left _ _)
theorem nodup_ne {xs ys : List Pr} (h : ((xs ++ ys).map (·.1)).Nodup) {x y : Pr} (hx : x ∈ xs) (hy : y ∈ ys) : x.1 ≠ y.1 := by
  rw [List.map_append] at h
  intro e
  exact (List.nodup_append.mp h).2.2 _ (List.mem_map_of_mem hx) _ (List.mem_map_of_mem hy) e
theorem after_of {ks : List Str} {o : Ord} (ho : ∀ t ∈ o, t.1 < ks.length) {x y : Pr} (hx : isRow ks x.2 = true) (hy : isRow ks y.2 = true) (n : x.1 ≠ y.1) (h : before o x y = false) : before o y x = true := by
  rw [before_tot o (cmp_of ho hx hy) n, h]
  rfl
end Rs

namespace Rs
open PySem PySem.Spec PyProof.Rows L2
structure TxtRoom (K : PySem.W.Frag) : Prop where
  cl : Cls K (He.ga K "Room")
  n_order : NoAttr K (He.ga K "Room") "order"
  n_cells : NoAttr K (He.ga K "Room") "cells"
def f_Room (x0 x1 : V) : List (Str × V) := [(("order" : Str), x0), (("cells" : Str), x1)]
def RoomOb (K : PySem.W.Frag) (H : Hp) (p : Addr) (x0 x1 : V) : Prop := ∃ dx, H p = some (.ins (He.ga K "Room") dx (f_Room x0 x1))
section
variable {K : PySem.W.Frag} {x0 x1 y : V} {H : Hp} {Q : VK} {p : Addr} {D : Ends} {σ : L2.St}
end
structure TxtMaker (K : PySem.W.Frag) : Prop where
  cl : Cls K (He.ga K "Maker")
  n_order : NoAttr K (He.ga K "Maker") "order"
  n_size : NoAttr K (He.ga K "Maker") "size"
  n_room : NoAttr K (He.ga K "Maker") "room"
  n_run : NoAttr K (He.ga K "Maker") "run"
  n_last : NoAttr K (He.ga K "Maker") "last"
def f_Maker (x0 x1 x2 x3 x4 : V) : List (Str × V) := [(("order" : Str), x0), (("size" : Str), x1), (("room" : Str), x2), (("run" : Str), x3), (("last" : Str), x4)]
def MakerOb (K : PySem.W.Frag) (H : Hp) (p : Addr) (x0 x1 x2 x3 x4 : V) : Prop := ∃ dx, H p = some (.ins (He.ga K "Maker") dx (f_Maker x0 x1 x2 x3 x4))
section
variable {K : PySem.W.Frag} {x0 x1 x2 x3 x4 y : V} {H : Hp} {Q : VK} {p : Addr} {D : Ends} {σ : L2.St}
end
section
variable {α : Type} {d : α} {cs : List α} {i j k : Nat}
theorem getD_lt (hi : i < cs.length) : cs.getD i d = cs[i] := by
  rw [List.getD_eq_getElem?_getD, List.getElem?_eq_getElem hi]
  rfl
end
section
variable {α : Type} {ok : α → Prop} {lt : α → α → Bool} {d : α}
end
abbrev Cell := Int × Pr
def c0 : Cell := (0, 0, [])
end Rs

namespace Rs
open PySem PySem.Spec PyProof.Rows L2
def CellAt : Rel Cell := fun H v c => ∃ w, IsTp H v [.int c.1, w] ∧ PairAt H w c.2
theorem CellAt.st : Stable CellAt := fun _ _ _ _ t ⟨w, a, b⟩ => ⟨w, a.mono t, PairAt.st _ _ _ _ t b⟩
structure RoomS (K : PySem.W.Frag) (H : Hp) (p lo lc : Addr) (o : Ord) (cs : List Cell) : Prop where
  ob : RoomOb K H p (.ref lo) (.ref lc)
  ord : Lst TurnAt H lo o
  cells : Lst CellAt H lc cs
  ne : lo ≠ lc
theorem RoomOb.keep {K : PySem.W.Frag} {H H' : Hp} {p : Addr} {x y : V} (h : RoomOb K H p x y) (k : ∀ o, H p = some o → H' p = some o) : RoomOb K H' p x y := let ⟨dx, e⟩ := h; ⟨dx, k _ e⟩
theorem RoomOb.same {K : PySem.W.Frag} {H H' : Hp} {p : Addr} {x y : V} (h : RoomOb K H p x y) (s : Same H H') : RoomOb K H' p x y := h.keep fun o => s p o
theorem RoomS.same {K : PySem.W.Frag} {H H' : Hp} {p lo lc : Addr} {o : Ord} {cs : List Cell} (h : RoomS K H p lo lc o cs) (s : Same H H') : RoomS K H' p lo lc o cs := ⟨h.ob.same s, h.ord.same TurnAt.st s, h.cells.same CellAt.st s, h.ne⟩
theorem Lst.cell {α : Type} {R : Rel α} {H : Hp} {l : Addr} {xs : List α} (h : Lst R H l xs) {i : Nat} {x : α} (e : xs[i]? = some x) : ∃ vs v, H l = some (.lst vs) ∧ vs[i]? = some v ∧ R H v x := by
  obtain ⟨vs, a, b⟩ := h
  obtain ⟨v, hv, r⟩ := P2.get' b e
  exact ⟨vs, v, a, hv, r⟩
end Rs

namespace Rs
open PySem PySem.Spec PyProof.Rows L2
end Rs

namespace Rs
open PySem PySem.Spec PyProof.Rows L2
def OptAt : Rel (Option Pr) := fun H v q => match q with
  | none => v = .non
  | some p => PairAt H v p
theorem OptAt.st : Stable OptAt := fun H H' v q t h => match q, h with
  | none, h => h
  | some p, h => PairAt.st H H' v p t h
structure MakerS (K : PySem.W.Frag) (H : Hp) (p lo pr lc : Addr) (o : Ord) (size : Int) (cs : List Cell) (run : Int) (last : Option Pr) : Prop where
  ob : ∃ vl, MakerOb K H p (.ref lo) (.int size) (.ref pr) (.int run) vl ∧ OptAt H vl last
  room : RoomS K H pr lo lc o cs
  ne : p ≠ pr
theorem MakerOb.keep {K : PySem.W.Frag} {H H' : Hp} {p : Addr} {x0 x1 x2 x3 x4 : V} (h : MakerOb K H p x0 x1 x2 x3 x4) (k : ∀ o, H p = some o → H' p = some o) : MakerOb K H' p x0 x1 x2 x3 x4 := let ⟨dx, e⟩ := h; ⟨dx, k _ e⟩
theorem MakerS.same {K : PySem.W.Frag} {H H' : Hp} {p lo pr lc : Addr} {o : Ord} {size : Int} {cs : List Cell} {run : Int} {last : Option Pr} (h : MakerS K H p lo pr lc o size cs run last) (s : Same H H') : MakerS K H' p lo pr lc o size cs run last := by
  obtain ⟨vl, ob, hl⟩ := h.ob
  exact ⟨⟨vl, ob.keep fun u => s p u, OptAt.st _ _ _ _ (TupLe.same s) hl⟩, h.room.same s, h.ne⟩
theorem MakerS.tup {K : PySem.W.Frag} {H H' : Hp} {p lo pr lc : Addr} {o : Ord} {size : Int} {cs : List Cell} {run : Int} {last : Option Pr} (h : MakerS K H p lo pr lc o size cs run last) (k : But [p, lc] H H') : TupLe H H' := fun c xs e => by
  obtain ⟨vl, ⟨dx, e1⟩, _⟩ := h.ob
  obtain ⟨vs, e2, _⟩ := h.room.cells
  exact k c _ e (nn (ne_of e e1 (by intro z; cases z)) (ne_of e e2 (by intro z; cases z)))
def late (o : Ord) (q : Pr) (last : Option Pr) : Bool := match last with
  | none => false
  | some l => before o q l
end Rs

namespace Rs
open PySem PySem.Spec PyProof.Rows L2
def srt (o : Ord) : List Pr → List Pr
  | [] => []
  | x :: xs => mrg o [x] (srt o xs)
def mn (o : Ord) (xs : List Pr) : Pr := (srt o xs).getD 0 c0.2
def outN (n : Int) (xs : List Pr) : List Pr := xs.filter fun q => decide (q.1 ≠ n)
def fillL (o : Ord) (size : Int) (last : Option Pr) : List Pr → List Pr → List Pr → List Pr × List Pr × List Pr
  | [], h, l => ([], h, l)
  | p :: left, h, l => if ((h.length : Int) + (l.length : Int) < size) then (if late o p last then fillL o size last left h (l ++ [p]) else fillL o size last left (h ++ [p]) l) else (p :: left, h, l)
def inner (o : Ord) (size : Int) : Nat → List Pr → List Pr → List Pr → List Pr → List Pr × List Pr × List Pr
  | 0, left, _, l, run => (left, l, run)
  | n + 1, left, h, l, run =>
    if (fillL o size run.getLast? left h l).2.1 = [] then ((fillL o size run.getLast? left h l).1, (fillL o size run.getLast? left h l).2.2, run)
    else inner o size n (fillL o size run.getLast? left h l).1 (outN (mn o (fillL o size run.getLast? left h l).2.1).1 (fillL o size run.getLast? left h l).2.1) (fillL o size run.getLast? left h l).2.2 (run ++ [mn o (fillL o size run.getLast? left h l).2.1])
def outer (o : Ord) (size : Int) : Nat → List Pr → List Pr → List (List Pr) → List (List Pr)
  | 0, _, _, found => found
  | n + 1, left, l, found => if left = [] ∧ l = [] then found else
    outer o size n (inner o size (left.length + l.length + 1) left l [] []).1 (inner o size (left.length + l.length + 1) left l [] []).2.1 (found ++ [(inner o size (left.length + l.length + 1) left l [] []).2.2])
end Rs

namespace Rs
open PySem PySem.Spec PyProof.Rows L2
def cells (k : Int) (h l : List Pr) : List Cell := h.map (fun q => (k, q)) ++ l.map fun q => (k + 1, q)
section
variable {K : PySem.W.Frag} {H : Hp}
theorem dpAll {α : Type} {R : Rel α} {f : α → PyData} (hf : ∀ v x, R H v x → Dp K H v (f x)) : ∀ {vs : List V} {xs : List α}, Paired (R H) vs xs → DpAll K H vs (xs.map f)
  | _, _, .nil => .nil
  | _, _, .cons h t => .cons (hf _ _ h) (dpAll hf t)
theorem lst_dp {α : Type} {R : Rel α} {f : α → PyData} (hf : ∀ v x, R H v x → Dp K H v (f x)) {l : Addr} {xs : List α} (h : Lst R H l xs) : Dp K H (.ref l) (.list (xs.map f)) := by
  obtain ⟨vs, e, p⟩ := h
  exact .lst (SqL.of e) (dpAll hf p)
end
def okD : Nat → PyData → Prop
  | 0, _ => False
  | _ + 1, .none => True
  | _ + 1, .bool _ => True
  | _ + 1, .int _ => True
  | _ + 1, .str x => PyData.strOk x = true
  | n + 1, .list ds => ds.length ≤ 100000 ∧ ∀ d ∈ ds, okD n d
  | n + 1, .tuple ds => ds.length ≤ 100000 ∧ ∀ d ∈ ds, okD n d
  | _ + 1, _ => False
theorem okD.up : ∀ {n : Nat} {d : PyData}, okD n d → okD (n + 1) d
  | 0, _, h => h.elim
  | n + 1, .none, _ => trivial
  | n + 1, .bool _, _ => trivial
  | n + 1, .int _, _ => trivial
  | n + 1, .str _, h => h
  | n + 1, .list ds, h => ⟨h.1, fun d hd => okD.up (h.2 d hd)⟩
  | n + 1, .tuple ds, h => ⟨h.1, fun d hd => okD.up (h.2 d hd)⟩
theorem okD.ups {n : Nat} {d : PyData} (h : okD n d) : ∀ k, okD (n + k) d
  | 0 => h
  | k + 1 => okD.up (okD.ups h k)
theorem list_ok {α : Type} {f : α → PyData} {xs : List α} {n : Nat} (h : xs.length ≤ 100000) (hf : ∀ x ∈ xs, okD n (f x)) : okD (n + 1) (.list (xs.map f)) := ⟨by rw [List.length_map]; exact h, fun d hd => by
  obtain ⟨x, hx, rfl⟩ := List.mem_map.mp hd
  exact hf x hx⟩
mutual
theorem okD.lay : ∀ (n : Nat) (d : PyData), okD n d → d.canLay0 = true ∧ d.depth ≤ n
  | 0, _, h => h.elim
  | n + 1, .none, _ => ⟨rfl, by simp [PyData.depth]⟩
  | n + 1, .bool _, _ => ⟨rfl, by simp [PyData.depth]⟩
  | n + 1, .int _, _ => ⟨rfl, by simp [PyData.depth]⟩
  | n + 1, .str _, h => ⟨h, by simp [PyData.depth]⟩
  | n + 1, .list ds, h => by
    have := okD.layAll n ds h.2
    simp [PyData.canLay0, PyData.depth, this.1]
    omega
  | n + 1, .tuple ds, h => by
    have := okD.layAll n ds h.2
    simp [PyData.canLay0, PyData.depth, this.1]
    omega
theorem okD.layAll : ∀ (n : Nat) (ds : List PyData), (∀ d ∈ ds, okD n d) → PyData.canLayAll0 ds = true ∧ PyData.depthAll ds ≤ n
  | n, [], _ => ⟨rfl, by simp [PyData.depthAll]⟩
  | n, d :: ds, h => by
    have h1 := okD.lay n d (h d (List.mem_cons_self ..))
    have h2 := okD.layAll n ds fun e he => h e (List.mem_cons_of_mem _ he)
    simp [PyData.canLayAll0, PyData.depthAll, h1.1, h2.1]
    omega
end
theorem okD.shaped {n : Nat} {d : PyData} (h : okD n d) (hn : n ≤ 64) : SeqAt.shaped d = true := by
  have q := okD.lay n d h
  unfold SeqAt.shaped
  rw [q.1, decide_eq_true (Nat.le_trans q.2 hn)]
  rfl
theorem okD.eqv {n : Nat} {d : PyData} (h : okD n d) : PyData.eqv d d = true := SeqAt.eqv_refl d (okD.lay n d h).1
end Rs

namespace Rs
open PySem PySem.Spec PyProof.Rows L2
def RunAt (H0 : Hp) (S : List Addr) : Rel (List Pr) := fun H v xs => ∃ l, v = .ref l ∧ H0 l = none ∧ l ∉ S ∧ Lst PairAt H l xs
section
variable {H0 H H' : Hp} {S S' : List Addr} {v : V} {xs : List Pr} {x l lf : Addr} {found : List (List Pr)}
theorem RunAt.keep (h : RunAt H0 S H v xs) (t : TupLe H H') (k : ∀ l, H0 l = none → l ∉ S → ∀ o, H l = some o → H' l = some o) : RunAt H0 S H' v xs := let ⟨l, e, a, b, c⟩ := h; ⟨l, e, a, b, c.keep PairAt.st t (k l a b)⟩
theorem RunAt.sub (h : RunAt H0 S H v xs) (k : ∀ y ∈ S', y ∈ S) : RunAt H0 S' H v xs := let ⟨l, e, a, b, c⟩ := h; ⟨l, e, a, fun z => b (k _ z), c⟩
theorem RunAt.new (h : RunAt H0 S H v xs) (hx : H x = none) : RunAt H0 (x :: S) H v xs := by
  obtain ⟨l, e, a, b, c⟩ := h
  refine ⟨l, e, a, fun z => ?_, c⟩
  obtain ⟨vs, q, _⟩ := c
  rcases List.mem_cons.mp z with z | z
  · rw [z, hx] at q; cases q
  · exact b z
theorem Runs.sub (h : Lst (RunAt H0 S) H lf found) (k : ∀ y ∈ S', y ∈ S) : Lst (RunAt H0 S') H lf found := let ⟨vs, a, b⟩ := h; ⟨vs, a, P2.mono (fun _ _ q => q.sub k) b⟩
theorem Runs.new (h : Lst (RunAt H0 S) H lf found) (hx : H x = none) : Lst (RunAt H0 (x :: S)) H lf found := let ⟨vs, a, b⟩ := h; ⟨vs, a, P2.mono (fun _ _ q => q.new hx) b⟩
theorem Runs.same (h : Lst (RunAt H0 S) H lf found) (s : Same H H') : Lst (RunAt H0 S) H' lf found := let ⟨vs, a, b⟩ := h; ⟨vs, s _ _ a, P2.mono (fun _ _ q => q.keep (TupLe.same s) fun l _ _ => s l) b⟩
theorem Runs.put {ys : List V} {u : HO} (h : Lst (RunAt H0 S) H lf found) (hx : H x = some (.lst ys)) (hs : x ∈ S) (n : lf ≠ x) : Lst (RunAt H0 S) (upd H x u) lf found := let ⟨vs, a, b⟩ := h; ⟨vs, up a n, P2.mono (fun _ _ q => q.keep ((TupLe.refl H).list hx) fun l _ hl o e => up e fun z => hl (by rw [z]; exact hs)) b⟩
theorem Lst.off {ys : List V} {u : HO} (h : Lst PairAt H l xs) (hx : H x = some (.lst ys)) (n : l ≠ x) : Lst PairAt (upd H x u) l xs := h.keep PairAt.st ((TupLe.refl H).list hx) fun o e => up e n
theorem Lst.on {ys vs : List V} (hx : H l = some (.lst ys)) (p : Paired (PairAt H) vs xs) : Lst PairAt (upd H l (.lst vs)) l xs := ⟨vs, upd_same, Paired.tl PairAt.st ((TupLe.refl H).list hx) p⟩
end
structure LR (H0 H : Hp) (a b c d e : Addr) (left here late : List Pr) (found : List (List Pr)) (run : List Pr) : Prop where
  same : Same H0 H
  fr : ∀ x ∈ [a, b, c, d, e], H0 x = none
  nd : [a, b, c, d, e].Nodup
  la : Lst PairAt H a left
  lb : Lst PairAt H b here
  lc : Lst PairAt H c late
  ld : Lst (RunAt H0 [a, b, c, d, e]) H d found
  le : Lst PairAt H e run
section
variable {H0 H H' : Hp} {a b c d e : Addr} {left here late left' here' late' : List Pr} {found : List (List Pr)} {run run' : List Pr} {vs : List V}
theorem nd5 (h : [a, b, c, d, e].Nodup) : ((a ≠ b ∧ a ≠ c ∧ a ≠ d ∧ a ≠ e) ∧ (b ≠ c ∧ b ≠ d ∧ b ≠ e) ∧ (c ≠ d ∧ c ≠ e) ∧ d ≠ e) := by simpa using h
theorem LR.on (L : LR H0 H a b c d e left here late found run) (s : Same H H') : LR H0 H' a b c d e left here late found run := ⟨L.same.trans s, L.fr, L.nd, L.la.same PairAt.st s, L.lb.same PairAt.st s, L.lc.same PairAt.st s, Runs.same L.ld s, L.le.same PairAt.st s⟩
theorem LR.pa (L : LR H0 H a b c d e left here late found run) (p : Paired (PairAt H) vs left') : LR H0 (upd H a (.lst vs)) a b c d e left' here late found run := by
  obtain ⟨⟨ab, ac, ad, ae⟩, ⟨bc, bd, be⟩, ⟨cd, ce⟩, de⟩ := nd5 L.nd
  obtain ⟨ys, hx, _⟩ := L.la
  exact ⟨Rs.Same.mut L.same (L.fr _ (by simp)), L.fr, L.nd, Lst.on hx p, L.lb.off hx ab.symm, L.lc.off hx ac.symm, Runs.put L.ld hx (by simp) ad.symm, L.le.off hx ae.symm⟩
theorem LR.pb (L : LR H0 H a b c d e left here late found run) (p : Paired (PairAt H) vs here') : LR H0 (upd H b (.lst vs)) a b c d e left here' late found run := by
  obtain ⟨⟨ab, ac, ad, ae⟩, ⟨bc, bd, be⟩, ⟨cd, ce⟩, de⟩ := nd5 L.nd
  obtain ⟨ys, hx, _⟩ := L.lb
  exact ⟨Rs.Same.mut L.same (L.fr _ (by simp)), L.fr, L.nd, L.la.off hx ab, Lst.on hx p, L.lc.off hx bc.symm, Runs.put L.ld hx (by simp) bd.symm, L.le.off hx be.symm⟩
theorem LR.pe (L : LR H0 H a b c d e left here late found run) (p : Paired (PairAt H) vs run') : LR H0 (upd H e (.lst vs)) a b c d e left here late found run' := by
  obtain ⟨⟨ab, ac, ad, ae⟩, ⟨bc, bd, be⟩, ⟨cd, ce⟩, de⟩ := nd5 L.nd
  obtain ⟨ys, hx, _⟩ := L.le
  exact ⟨Rs.Same.mut L.same (L.fr _ (by simp)), L.fr, L.nd, L.la.off hx ae, L.lb.off hx be, L.lc.off hx ce, Runs.put L.ld hx (by simp) de, Lst.on hx p⟩
end
end Rs

namespace Rs
open PySem PySem.Spec PyProof.Rows L2
theorem KindsAt.st : Stable KindsAt := fun _ _ _ _ t h => IsTp.mono t h
theorem KindsAt.same {H H' : Hp} {v : V} {ks : List Str} (h : KindsAt H v ks) (s : Same H H') : KindsAt H' v ks := KindsAt.st _ _ _ _ (TupLe.same s) h
def slc (size : Int) (xs : List Pr) (i : Nat) : List Pr := (xs.drop (i * size.toNat)).take size.toNat
def nslc (size : Int) (n : Nat) : Nat := (((n : Int) + size - 1) / size).toNat
def parts (o : Ord) (size : Int) (xs : List Pr) : List (List Pr) := (List.range (nslc size xs.length)).map fun i => srt o (slc size xs i)
end Rs

namespace Rs
open PySem PySem.Spec PyProof.Rows L2
structure EX (K : PySem.W.Frag) (H0 H : Hp) (p lo pr lc a d e : Addr) (o : Ord) (size : Int) (cs : List Cell) (k : Int) (last : Option Pr) (left : List Pr) (found : List (List Pr)) (run : List Pr) : Prop where
  same : Same H0 H
  fr : ∀ x ∈ [p, lc, a, d, e], H0 x = none
  nd : [lc, a, d, e].Nodup
  mm : MakerS K H p lo pr lc o size cs k last
  la : Lst PairAt H a left
  ld : Lst (RunAt H0 [lc, a, d, e]) H d found
  le : Lst PairAt H e run
section
variable {K : PySem.W.Frag} {H0 H H' : Hp} {p lo pr lc a d e : Addr} {o : Ord} {size : Int} {cs cs' : List Cell} {k k' : Int} {last last' : Option Pr} {left left' : List Pr} {found : List (List Pr)} {run run' : List Pr} {vs : List V}
theorem nd4 (h : [lc, a, d, e].Nodup) : ((lc ≠ a ∧ lc ≠ d ∧ lc ≠ e) ∧ (a ≠ d ∧ a ≠ e) ∧ d ≠ e) := by simpa using h
theorem MakerS.nl (M : MakerS K H p lo pr lc o size cs k last) {x : Addr} {ys : List V} (h : H x = some (.lst ys)) : x ≠ p ∧ x ≠ pr := by
  obtain ⟨vl, ⟨dx, e⟩, _⟩ := M.ob
  obtain ⟨dr, e2⟩ := M.room.ob
  exact ⟨ne_of h e (by intro z; cases z), ne_of h e2 (by intro z; cases z)⟩
theorem EX.on (L : EX K H0 H p lo pr lc a d e o size cs k last left found run) (s : Same H H') : EX K H0 H' p lo pr lc a d e o size cs k last left found run := ⟨L.same.trans s, L.fr, L.nd, L.mm.same s, L.la.same PairAt.st s, Runs.same L.ld s, L.le.same PairAt.st s⟩
theorem MakerS.put (M : MakerS K H p lo pr lc o size cs k last) (s0 : Same H0 H) {x : Addr} {ys vs : List V} (h : H x = some (.lst ys)) (n1 : x ≠ lc) (n2 : x ≠ lo) : MakerS K (upd H x (.lst vs)) p lo pr lc o size cs k last := by
  have t : TupLe H (upd H x (.lst vs)) := (TupLe.refl H).list h
  obtain ⟨vl, ob, hv⟩ := M.ob
  obtain ⟨xp, xr⟩ := M.nl h
  exact ⟨⟨vl, ob.keep fun u e => up e xp.symm, OptAt.st _ _ _ _ t hv⟩, ⟨M.room.ob.keep fun u e => up e xr.symm, M.room.ord.keep TurnAt.st t fun u e => up e n2.symm, M.room.cells.keep CellAt.st t fun u e => up e n1.symm, M.room.ne⟩, M.ne⟩
theorem EX.pa (L : EX K H0 H p lo pr lc a d e o size cs k last left found run) (n : a ≠ lo) (q : Paired (PairAt H) vs left') : EX K H0 (upd H a (.lst vs)) p lo pr lc a d e o size cs k last left' found run := by
  obtain ⟨⟨q1, q2, q3⟩, ⟨q4, q5⟩, q6⟩ := nd4 L.nd
  obtain ⟨ys, hx, _⟩ := L.la
  exact ⟨Rs.Same.mut L.same (L.fr _ (by simp)), L.fr, L.nd, L.mm.put L.same hx q1.symm n, Lst.on hx q, Runs.put L.ld hx (by simp) q4.symm, L.le.off hx q5.symm⟩
theorem EX.pe (L : EX K H0 H p lo pr lc a d e o size cs k last left found run) (n : e ≠ lo) (q : Paired (PairAt H) vs run') : EX K H0 (upd H e (.lst vs)) p lo pr lc a d e o size cs k last left found run' := by
  obtain ⟨⟨q1, q2, q3⟩, ⟨q4, q5⟩, q6⟩ := nd4 L.nd
  obtain ⟨ys, hx, _⟩ := L.le
  exact ⟨Rs.Same.mut L.same (L.fr _ (by simp)), L.fr, L.nd, L.mm.put L.same hx q3.symm n, L.la.off hx q5, Runs.put L.ld hx (by simp) q6, Lst.on hx q⟩
end
end Rs

namespace Rs
open PySem PySem.Spec PyProof.Rows L2
abbrev N_law_alike : List Str := ["_law_found", "_law_due", "_law_k"]
abbrev P_law_alike : List Str := ["_law_found", "_law_due"]
def okA : Nat → PyData → Prop
  | 0, _ => False
  | _ + 1, .none => True
  | _ + 1, .bool _ => True
  | _ + 1, .int _ => True
  | _ + 1, .str _ => True
  | n + 1, .list ds => ds.length ≤ 100000 ∧ ∀ d ∈ ds, okA n d
  | n + 1, .tuple ds => ds.length ≤ 100000 ∧ ∀ d ∈ ds, okA n d
  | _ + 1, _ => False
theorem okD.a : ∀ {n : Nat} {d : PyData}, okD n d → okA n d
  | 0, _, h => h.elim
  | n + 1, .none, _ => trivial
  | n + 1, .bool _, _ => trivial
  | n + 1, .int _, _ => trivial
  | n + 1, .str _, _ => trivial
  | n + 1, .list ds, h => ⟨h.1, fun d hd => okD.a (h.2 d hd)⟩
  | n + 1, .tuple ds, h => ⟨h.1, fun d hd => okD.a (h.2 d hd)⟩
theorem okA.up : ∀ {n : Nat} {d : PyData}, okA n d → okA (n + 1) d
  | 0, _, h => h.elim
  | n + 1, .none, _ => trivial
  | n + 1, .bool _, _ => trivial
  | n + 1, .int _, _ => trivial
  | n + 1, .str _, _ => trivial
  | n + 1, .list ds, h => ⟨h.1, fun d hd => okA.up (h.2 d hd)⟩
  | n + 1, .tuple ds, h => ⟨h.1, fun d hd => okA.up (h.2 d hd)⟩
theorem okA.ups {n : Nat} {d : PyData} (h : okA n d) : ∀ k, okA (n + k) d
  | 0 => h
  | k + 1 => okA.up (okA.ups h k)
theorem okA.to {n m : Nat} {d : PyData} (h : okA n d) (l : n ≤ m) : okA m d := by
  have := h.ups (m - n)
  rwa [show n + (m - n) = m by omega] at this
def spr_law_alike (K : PySem.W.Frag) (n : Nat) : Sp := fun vs H Q E => match vs with
  | [x, y] => ∃ d, okA n d ∧ Dp K H x d ∧ Dp K H y d ∧ Q (.bl true) H
  | _ => False
abbrev sp_law_alike (K : PySem.W.Frag) : Sp := spr_law_alike K 45
theorem len_law_alike (K : PySem.W.Frag) : ∀ d vs H Q E, spr_law_alike K d vs H Q E → vs.length = 2 := fun d vs H Q E h => by
  unfold spr_law_alike at h
  match vs, h with
  | [_, _], _ => rfl
theorem no_law_alike (K : PySem.W.Frag) : ∀ vs H Q E, ¬ spr_law_alike K 0 vs H Q E := fun vs H Q E h => by
  unfold spr_law_alike at h
  match vs, h with
  | [_, _], ⟨d, h, _⟩ => exact h
def t_law_alike (K : PySem.W.Frag) (sp : Sp) (E : XK) : TS := (tSeq (tIfS (tTest (tOpC rIsN (tVar 1) .non)) (tRet (tOpC rIsN (tVar 0) .non)) tNext)
  (tSeq (tIfS (tB (tIsi K "bool" (tVar 1))) (tRet (tAndV (tIsi K "bool" (tVar 0)) (tOp rEq (tVar 0) (tVar 1)))) tNext)
   (tSeq (tIfS (tB (tIsi K "int" (tVar 1))) (tRet (tAndV (tIsi K "int" (tVar 0)) (tAndV (tNotV (tIsi K "bool" (tVar 0))) (tOp rEq (tVar 0) (tVar 1))))) tNext)
    (tSeq (tIfS (tB (tIsi K "str" (tVar 1))) (tRet (tAndV (tIsi K "str" (tVar 0)) (tOp rEq (tVar 0) (tVar 1)))) tNext)
     (tSeq (tIfS (tOr (tTest (tOp rNe (tIsi K "tuple" (tVar 1)) (tIsi K "tuple" (tVar 0)))) (tTest (tOp rNe (tIsi K "list" (tVar 1)) (tIsi K "list" (tVar 0))))) (tRet (tC (.bl false))) tNext)
      (tSeq (tIfS (tTest (tOp rNe (tCB1 (xLen K) (tVar 0)) (tCB1 (xLen K) (tVar 1)))) (tRet (tC (.bl false))) tNext)
       (tSeq (tFor (iRng1 (tCons (tCB1 (xLen K) (tVar 1)) tNil)) (gName 2) 
          (tIfS (tNot (tB (tCall sp [] E (tCons (tOp (rIx K) (tVar 0) (tVar 2)) (tCons (tOp (rIx K) (tVar 1) (tVar 2)) tNil))))) (tRet (tC (.bl false))) tNext))
        (tRet (tC (.bl true))))))))))
theorem tyL {K : PySem.W.Frag} {H : Hp} {a : Addr} {xs : List V} (h : SqL K H a xs) : TyX K H (.ref a) (.type "list") := by
  rcases h with (h | ⟨o, h⟩) | ⟨o, its, n, h, c, _⟩
  · exact .base (.lst h)
  · exact .base (.frz h)
  · exact .kList h c
theorem tyT {K : PySem.W.Frag} {H : Hp} {a : Addr} {xs : List V} (h : SqT K H a xs) : TyX K H (.ref a) (.type "tuple") := by
  rcases h with (h | ⟨o, h⟩) | ⟨o, its, n, h, c, _⟩
  · exact .base (.tup h)
  · exact .fTuple h
  · exact .kTuple h c
theorem dpAll_len {K : PySem.W.Frag} {H : Hp} : ∀ {vs : List V} {ds : List PyData}, DpAll K H vs ds → vs.length = ds.length
  | _, _, .nil => rfl
  | _, _, .cons _ t => by rw [List.length_cons, List.length_cons, dpAll_len t]
theorem dpAll_get {K : PySem.W.Frag} {H : Hp} : ∀ {vs : List V} {ds : List PyData}, DpAll K H vs ds → ∀ {i : Nat} {d : PyData}, ds[i]? = some d → ∃ v, vs[i]? = some v ∧ Dp K H v d
  | _, _, .nil, _, _, e => by simp at e
  | _, _, .cons h t, 0, d, e => by simp at e; subst e; exact ⟨_, rfl, h⟩
  | _, _, .cons h t, i + 1, d, e => by simpa using dpAll_get t (i := i) (by simpa using e)
theorem pure_law_alike {K : PySem.W.Frag} (d : Nat) : ∀ vs H Q E, spr_law_alike K (d + 1) vs H Q E → t_law_alike K (spr_law_alike K d) E { nx := fun _ H' => Q .non H', rt := Q } (start N_law_alike vs) H := by
  intro vs H Q E h
  unfold spr_law_alike at h
  match vs, h with
  | [x, y], ⟨z, ok, hx, hy, k⟩ =>
    -- two rows of items
    have tail : ∀ (a b : Addr) (xs ys : List V) (ds : List PyData), (SqL K H a xs ∨ SqT K H a xs) → (SqL K H b ys ∨ SqT K H b ys) → DpAll K H xs ds → DpAll K H ys ds → ds.length ≤ 100000 → (∀ e ∈ ds, okA d e) →
        ((tSeq (tIfS (tTest (tOp rNe (tCB1 (xLen K) (tVar 0)) (tCB1 (xLen K) (tVar 1)))) (tRet (tC (.bl false))) tNext)
          (tSeq (tFor (iRng1 (tCons (tCB1 (xLen K) (tVar 1)) tNil)) (gName 2) (tIfS (tNot (tB (tCall (spr_law_alike K d) [] E (tCons (tOp (rIx K) (tVar 0) (tVar 2)) (tCons (tOp (rIx K) (tVar 1) (tVar 2)) tNil))))) (tRet (tC (.bl false))) tNext))
            (tRet (tC (.bl true))))) : TS) { nx := fun _ H' => Q .non H', rt := Q } [some (.ref a), some (.ref b), none] H := by
      intro a b xs ys ds ha hb dx dy hl hok
      have lx := dpAll_len dx
      have ly := dpAll_len dy
      refine ⟨_, rfl, a, xs, rfl, ha, _, rfl, b, ys, rfl, hb, rfl, _, rfl, ?_⟩
      have e : (!decide (V.int (xs.length : Int) = V.int (ys.length : Int))) = false := by rw [lx, ly]; simp
      rw [e]
      refine ⟨_, rfl, b, ys, rfl, hb, _, rfl, by omega, by omega, ?_⟩
      refine for_range (lo := 0) (n := (ys.length : Int).toNat) (fun i σ H' => H' = H ∧ ∃ x2, σ = [some (.ref a), some (.ref b), x2]) ⟨rfl, none, rfl⟩ ?_ ?_
      · rintro i σ H' hi ⟨rfl, x2, rfl⟩
        have hid : i < ds.length := by omega
        have hd := List.getElem?_eq_getElem hid
        obtain ⟨vx, gx, px⟩ := dpAll_get dx hd
        obtain ⟨vy, gy, py⟩ := dpAll_get dy hd
        have ix : ∀ {a : Addr} {xs : List V} {v : V} {Q : VK}, (SqL K H' a xs ∨ SqT K H' a xs) → xs[i]? = some v → Q v H' → rIx K (.ref a) (.int (0 + (i : Int))) H' Q := fun h g q => by
          rcases h with h | h
          · exact .inl ⟨_, _, _, _, rfl, rfl, h, at_of (j := i) (by omega) g, q⟩
          · exact .inr (.inl ⟨_, _, _, _, rfl, rfl, h, at_of (j := i) (by omega) g, q⟩)
        refine ⟨_, rfl, _, rfl, ix ha gx ⟨_, rfl, _, rfl, ix hb gy ?_⟩⟩
        exact ⟨ds[i], hok _ (List.getElem_mem hid), px, py, _, rfl, rfl, _, rfl⟩
      · rintro σ H' ⟨rfl, x2, rfl⟩
        exact k
    cases hx with
    | non =>
      cases hy
      exact ⟨_, rfl, rfl, _, rfl, _, rfl, rfl, k⟩
    | bl b =>
      cases hy
      refine ⟨_, rfl, rfl, _, rfl, _, rfl, isi_go (t := "bool") (b := true) (.base (.bl b)) (by decide +kernel) ⟨_, rfl, _, rfl, isi_go (t := "bool") (b := true) (.base (.bl b)) (by decide +kernel) ⟨_, rfl, _, rfl, _, rfl, rfl, ?_⟩⟩⟩
      rw [decide_eq_true rfl]
      exact k
    | int b =>
      cases hy
      refine ⟨_, rfl, rfl, _, rfl, _, rfl, isi_go (t := "int") (b := false) (.base (.int b)) (by decide +kernel) ⟨_, rfl, _, rfl, isi_go (t := "int") (b := true) (.base (.int b)) (by decide +kernel) ⟨_, rfl, _, rfl, isi_go (t := "int") (b := true) (.base (.int b)) (by decide +kernel) ⟨_, rfl, _, rfl, isi_go (t := "int") (b := false) (.base (.int b)) (by decide +kernel) ⟨_, rfl, _, rfl, _, rfl, _, rfl, rfl, ?_⟩⟩⟩⟩⟩
      rw [decide_eq_true rfl]
      exact k
    | str b =>
      cases hy
      refine ⟨_, rfl, rfl, _, rfl, _, rfl, isi_go (t := "str") (b := false) (.base (.str b)) (by decide +kernel) ⟨_, rfl, _, rfl, isi_go (t := "str") (b := false) (.base (.str b)) (by decide +kernel) ⟨_, rfl, _, rfl, isi_go (t := "str") (b := true) (.base (.str b)) (by decide +kernel) ⟨_, rfl, _, rfl, isi_go (t := "str") (b := true) (.base (.str b)) (by decide +kernel) ⟨_, rfl, _, rfl, _, rfl, rfl, ?_⟩⟩⟩⟩⟩
      rw [decide_eq_true rfl]
      exact k
    | @lst a xs ds sx dx =>
      cases hy with
      | @lst b ys _ sy dy =>
        obtain ⟨hl, hok⟩ : ds.length ≤ 100000 ∧ ∀ e ∈ ds, okA d e := ok
        refine ⟨_, rfl, rfl, _, rfl, _, rfl, isi_go (t := "list") (b := false) (tyL sy) (by decide +kernel) ⟨_, rfl, _, rfl, isi_go (t := "list") (b := false) (tyL sy) (by decide +kernel) ⟨_, rfl, _, rfl, isi_go (t := "list") (b := false) (tyL sy) (by decide +kernel) ⟨_, rfl, ?_⟩⟩⟩⟩
        refine ⟨_, rfl, isi_go (t := "list") (b := false) (tyL sy) (by decide +kernel) ⟨_, rfl, isi_go (t := "list") (b := false) (tyL sx) (by decide +kernel) ⟨rfl, _, rfl, _, rfl, isi_go (t := "list") (b := true) (tyL sy) (by decide +kernel) ⟨_, rfl, isi_go (t := "list") (b := true) (tyL sx) (by decide +kernel) ⟨rfl, _, rfl, ?_⟩⟩⟩⟩⟩
        exact tail a b xs ys ds (.inl sx) (.inl sy) dx dy hl hok
    | @tup a xs ds sx dx =>
      cases hy with
      | @tup b ys _ sy dy =>
        obtain ⟨hl, hok⟩ : ds.length ≤ 100000 ∧ ∀ e ∈ ds, okA d e := ok
        refine ⟨_, rfl, rfl, _, rfl, _, rfl, isi_go (t := "tuple") (b := false) (tyT sy) (by decide +kernel) ⟨_, rfl, _, rfl, isi_go (t := "tuple") (b := false) (tyT sy) (by decide +kernel) ⟨_, rfl, _, rfl, isi_go (t := "tuple") (b := false) (tyT sy) (by decide +kernel) ⟨_, rfl, ?_⟩⟩⟩⟩
        refine ⟨_, rfl, isi_go (t := "tuple") (b := true) (tyT sy) (by decide +kernel) ⟨_, rfl, isi_go (t := "tuple") (b := true) (tyT sx) (by decide +kernel) ⟨rfl, _, rfl, _, rfl, isi_go (t := "tuple") (b := false) (tyT sy) (by decide +kernel) ⟨_, rfl, isi_go (t := "tuple") (b := false) (tyT sx) (by decide +kernel) ⟨rfl, _, rfl, ?_⟩⟩⟩⟩⟩
        exact tail a b xs ys ds (.inr sx) (.inr sy) dx dy hl hok
end Rs

namespace Rs
open PySem PySem.Spec PyProof.Rows L2
theorem Lst.but {α : Type} {R : Rel α} (st : Stable R) {H H' : Hp} {a l x : Addr} {xs : List α} (B : Box H a l) (k : But [a, l] H H') (L : Lst R H x xs) (n : x ∉ [a, l]) : Lst R H' x xs := L.keep st (B.tup k) fun o e => k _ _ e n
theorem Box.fresh {H : Hp} {a l x : Addr} (B : Box H a l) (h : H x = none) : x ∉ [a, l] := by
  obtain ⟨ns, z, e1, e2, _⟩ := B.ex
  exact nn (ne_of_none e1 h).symm (ne_of_none e2 h).symm
theorem GoodOrd.len {ks : List Str} {o : Ord} (g : GoodOrd ks o) (h : ks.length ≤ 4) : o.length ≤ 4 := by
  have nd := g.nd
  have sub : (o.map (·.1)) ⊆ List.range ks.length := fun x hx => by
    obtain ⟨t, ht, rfl⟩ := List.mem_map.mp hx
    exact List.mem_range.mpr (g.col t ht)
  have := nd.length_le_of_subset sub
  rw [List.length_map, List.length_range] at this
  omega
end Rs

namespace Rs
open PySem PySem.Spec PyProof.Rows L2
section
variable {X : Cx} {W : WX} {E : XK} {k : Nat} {ps : List Str} {sp : Sp} {x m : Str} {e : Expr} {es : List Expr} {t : TA} {p p2 pos pos2 : Pos} {j : Nat}
theorem ps_raiseE (c : PySem.W.excIn X.K (He.ga X.K x) He.veBase "ValueError.__new__" = true ∧ PySem.W.keepIn X.K (.ref (He.ga X.K x)) = true ∧ PySem.W.subIn X.K (.ref (He.ga X.K x)) (.type "BaseException") = some true ∧ PySem.W.typeIn X.K (.ref (He.ga X.K x)) = some (.type "type"))
    (gC : X.mg x = some (.ref (He.ga X.K x))) (hg : Gl X x) (hc : X.calm = true) (tk : Takes X (fun cls d _ H => E cls d H)) (hdb : (x == ("__debug__" : Str)) = false := by decide) :
    PS X (.Raise (some (.Call (.Name x p) [.Constant (.str m) j p2] [] pos)) none pos2) (tRaise E (.ref (He.ga X.K x))) :=
  ps_raise hc tk (pmk_own PySem.F.excBase_ValueError c.1 gC c.2.1 (raises_own c.2.2.1 c.2.2.2) hg hdb)
end
section
variable {X : Cx} {E : XK} {x : Str} {body suite : List Stmt} {b₀ : Stmt} {np pos pos' : Pos} {tb : WX → TS} {ts : TS}
end
end Rs

namespace Rs
open PySem PySem.Spec PyProof.Rows L2 LamX
section
variable {P : Program} {w : World} {K : PySem.W.Frag} {mg : Str → Option Value} {base : Heap}
abbrev cxP (P : Program) (w : World) (K : PySem.W.Frag) (mg : Str → Option Value) (base : Heap) (N : List Str) (ql : Str) (sc : Scope) (g : Addr) (cd : Value) (A : Around) (outer : List Env) (z : Shared) (H : Hp) (a : Addr) (oe : Obj) : Cx :=
  L2H.cxH CX0 P w K mg base N ql sc g cd A outer z H E0 (a, oe)
theorem warm_call {k : Nat} {g : Addr} {nm ql : Str} {pr : Arguments} {bd : List Stmt} {sc : Scope} {dV kV doc pm cdv ct oc : Value} {an od : Option Addr} {osl : Array (Option Value)} {N : List Str} {y : Str} {A : Around} {outer : List Env} {z : Shared} {H : Hp} {Q : VK} {a : Addr} {oe : Obj} {t : TS}
    (lk : K.lookup g = some ⟨oc, od, .func (PySem.W.fnOf nm ql pr bd sc dV kV doc pm an cdv ct), osl⟩) (hcd : PySem.W.codeIn K cdv ql = true) (S : FnScope N [y] sc) (hr : L2H.RoomH (k + 1) A) (e0 : Env0 P w K mg base A outer z H) (hpin : L2H.PinOk outer H z (a, oe))
    (hb : BindsTo z (PySem.W.fnOf nm ql pr bd sc dV kV doc pm an cdv ct) ⟨[.ref a], []⟩ [(y, .ref a)]) (hbody : PSs (cxP P w K mg base N ql sc g cdv A outer z H a oe) bd t) (hq : t { nx := fun _ H' => Q .non H', rt := Q } (L2.start N [.ref a]) H) :
    codeAny (model P w) A (.call (.ref g) ⟨[.ref a], []⟩) (CR CX0 outer P w H z Q E0) z := by
  have KZ : K.In z.heap := e0.mod.kin.keeps fun b o e => (e0.bs b o e).1
  have lm : z.heap.NoLimit := e0.mod.nolimit.keeps fun b o e => (e0.bs b o e).1
  have hk : ∀ n ∈ [(y, Value.ref a)], sc.names.lookup n.1 = some .local ∨ (sc.names.lookup n.1 = some .cell ∧ ((cellsFrom (z.heap.objs.size + 1) sc.names []).lookup n.1).isSome = true) := fun n hn => by
    have en : n = (y, Value.ref a) := by simpa using hn
    rw [en]
    rcases S.par y (by simp) with q | q
    · exact .inl q
    · exact .inr ⟨q, PySem.W.cellsFrom_some _ _ _ (.inl q)⟩
  refine codeAny_call_function hr.depth (KZ _ _ lk) rfl S.co S.gen rfl (PySem.W.codeRec_of KZ hcd) (hb _ _ _ _ (wpAny_newFunctionEnv_cells S.kind hk fun env he z1 x => ?_))
  subst he
  refine ⟨lm.keeps x.toInCall.keep, codeAny_func (wpAny_mono (hbody.run [] z1 (L2.start N [.ref a]) H _ (L2H.inv_startH (us := [.ref a]) (vs := [.ref a]) S hpin e0 rfl (.cons rfl .nil) x) hq) (fun fl z' hs => ?_) fun e z' hs => hs)⟩
  cases fl with
  | ret u =>
    obtain ⟨v, σ', H', J, rv, q⟩ := hs
    exact ⟨v, H', J.os, J.bare, J.base, J.hok, rv, q⟩
  | next =>
    obtain ⟨σ', H', J, q⟩ := hs
    exact ⟨.non, H', J.os, J.bare, J.base, J.hok, rfl, q⟩
  | brk => exact hs.elim fun _ h => h.elim fun _ h => h.2.elim
  | cont => exact hs.elim fun _ h => h.elim fun _ h => h.2.elim
end
section
variable {prog : Program} {w : World} {A : Around} {E : Value → Shared → Prop} {z : Shared} {K : PySem.W.Frag} {p D : Addr} {op : Obj} {od : Option Obj}
open PySem.W PySem.Calls in
theorem found_class (C : ExcC K D) : findObj K D od "__class__" = some (.bind (.builtin "getset_descriptor.__get__") (.builtin "object.__class__")) := by
  obtain ⟨cd, hc, _⟩ := any_some C.hd
  have e1 := C.ha
  have e2 := C.hn
  have e3 := C.ht
  unfold findObj
  rw [hc, Option.bind_some, e1, Option.bind_some]
  simp [e2, e3]
open PySem.W PySem.Calls in
theorem ask_class {Q : Option Value → Shared → Prop} (C : ExcC K D) (KI : K.In z.heap) (J : InstAt z.heap p op D od) (q : Q (some (.ref D)) { z with toks := z.toks + 1 }) : wpAny (model prog w) A (getAttr? (.ref p) "__class__") Q E z := by
  have fo := found_class (od := od) C
  obtain ⟨hp, gs, dr, tk, ou⟩ := z
  have a0 := J.type (M := model prog w)
  have a1 := looks_findIn (M := model prog w) KI C.hg
  have a2 := looks_findIn (M := model prog w) KI C.hk
  have a3 := looks_find (M := model prog w) KI J fo
  have up : Looks (model prog w) hp (isInstance (.ref p) (.type "BaseException")) true := a0.andThen (looks_subIn KI C.hs)
  have no : (Value.builtin "BaseException.__getattribute__" == Value.builtin "object.__getattribute__") = false := by decide +kernel
  have no2 : (onTheHeap (Value.ref D) && Value.builtin "BaseException.__getattribute__" == Value.builtin "object.__getattribute__") = false := by rw [no]; rfl
  unfold getAttr?
  unfold getAttrBy? getAttrBy
  refine wpAny_bind (wpAny_mkText (wpAny_bind (wpAny_attempt (wpAny_holding (wpAny_bind (a0.at (wpAny_bind (a1.at ?_))))))))
  show wpAny _ _ (if (onTheHeap (Value.ref D) && Value.builtin "BaseException.__getattribute__" == Value.builtin "object.__getattribute__") = true then _ else _) _ _ _
  rw [no2, if_neg Bool.false_ne_true]
  unfold getAttrByItsOwn
  unfold hookBefore
  refine wpAny_bind ?_
  rw [if_pos (show onTheHeap (.ref D) = true from rfl)]
  refine a2.at (wpAny_bind (wpAny_attempt (wpAny_holding ?_)))
  unfold callGetattribute
  rw [show (false && onTheHeap (Value.builtin "BaseException.__getattribute__")) = false from rfl, if_neg Bool.false_ne_true]
  unfold boundAndCalled
  rw [PySem.F.excAttr_ValueError.ga.bind (.ref p)]
  refine wpAny_bind (wpAny_pure (wpAny_call (codeAny_call_builtin PySem.F.excAttr_ValueError.ga.plain PySem.F.entry_bexc_ga ?_)))
  refine @check_slot (model prog w) _ _ ⟨hp, gs, dr, tk + 1, ou⟩ "BaseException.__getattribute__" "BaseException" "__getattribute__" (.ref p) [.str "__class__" tk] [] _ (by decide +kernel) (by decide +kernel) up (PySem.F.args_bexc_ga (.ref p) (.str "__class__" tk)) ?_
  delta Builtin.«object.__getattribute__»
  refine wpAny_bind (wpAny_of_eq (a := ((Value.ref p : Value), [Value.str "__class__" tk])) (by first | rfl | (simp only [slotArgs]; rfl)) ?_)
  refine wpAny_bind (wpAny_pure (wpAny_bind (a0.at (wpAny_bind (a3.at ?_)))))
  refine wpAny_bind (wpAny_holding (wpAny_call (class_get (s := ⟨hp, gs, dr, tk + 1, ou⟩) (ox := op) (od := od) KI J C.hm ?_)))
  refine wpAny_pure ?_
  refine (show wpAny _ _ (handedOut (Value.ref D)) _ _ _ from ?_)
  rw [handedOut_of (v := Value.ref D) rfl]
  first
    | exact wpAny_pure (wpAny_pure q)
    | exact wpAny_pure q
    | exact wpAny_pure (wpAny_bind (wpAny_pure (wpAny_pure q)))
open PySem.W PySem.Calls in
theorem kit_err (C : ExcC K D) : KitX K (.ref p) (.ref D) (fun h => InstAt h p op D od) := by
  have base := handS_kitx_exc (x := p) (ox := op) C.hg C.hk C.hs C.hd C.ha C.hn C.ht C.hm
  exact ⟨fun _ _ _ J => J.type, fun M h KI J => (by
    obtain ⟨cd, hc, _⟩ := any_some C.hd
    unfold clsIn at hc
    split at hc
    · rename_i ho
      intro A' Q' E' z' k q
      unfold isType loadHead
      exact wpAny_bind (wpAny_loadPart (k _ _ (KI _ _ ho)) (wpAny_pure q))
    · cases hc), base.ne, fun KI J q => ask_class C KI J q⟩
end
def DictOk (d : Option Addr) (H : Hp) : Prop := ∀ dd, d = some dd → ∃ fs, H dd = some (.xd fs)
def rIsX (K : PySem.W.Frag) (D a : Addr) (d : Option Addr) : List V → Hp → VK → Prop := fun xs H Q => ∃ (c : V) (cv : Value) (b : Bool), xs = [.ref a, c] ∧ (∀ u, RelV c u → u = cv) ∧ PySem.W.kitOne K (.ref D) cv = some b ∧ DictOk d H ∧ Q (.bl b) H
section
variable {X : Cx} {a D : Addr} {oe : Obj} {pn : List (Addr × Obj)}
theorem pe_gref {x : Str} {p : Pos} (hg : Gl X x) (hm : X.mg x = some (.ref (He.ga X.K x))) (hd : (x == ("__debug__" : Str)) = false := by decide) : PE X (.Name x p) (tC (.ref (He.ga X.K x))) :=
  ⟨fun _ _ _ H _ I h => ld_glob I hg hm ⟨.ref _, H, I, rfl, h⟩ hd⟩
theorem call_isP {d : Option Addr} (C : ExcC X.K D) (hz : Zc (.ref D) d oe) (hf : ∃ vs, oe.data = .fields vs) (hp : (a, oe) ∈ X.pn) : CallR X (.builtin "isinstance") (rIsX X.K D a d) := by
  intro pins z σ H xs us Q I r h
  obtain ⟨c, cv, b, rfl, hcv, e, hd, q⟩ := h
  obtain ⟨u1, ur, rfl, rx, rr⟩ : ∃ u1 ur, us = u1 :: ur ∧ RelV (.ref a) u1 ∧ Vals [c] ur := by
    cases r with
    | cons rx rr => exact ⟨_, _, rfl, rx, rr⟩
  obtain ⟨u2, rfl, rt⟩ : ∃ u2, ur = [u2] ∧ RelV c u2 := by
    cases rr with
    | cons rt r0 =>
      cases r0
      exact ⟨_, rfl, rt⟩
  obtain rfl : u1 = Value.ref a := rx
  obtain rfl := hcv _ rt
  have hget := (I.pin (a, oe) (List.mem_append_left _ hp)).1
  obtain ⟨vs, hv⟩ := hf
  have nc : PySem.W.notCls oe := by unfold PySem.W.notCls; rw [hv] <;> rfl
  obtain ⟨od, J⟩ : ∃ od, PySem.W.InstAt z.heap a oe D od := by
    cases ed : d with
    | none => exact ⟨none, hget, hz.1, nc, by rw [hz.2, ed]; trivial⟩
    | some dd =>
      obtain ⟨fs, hH⟩ := hd dd ed
      have hx : ObjOk X.prog X.w H z.heap dd (.xd fs) := I.hok dd _ hH
      obtain ⟨mA, hns, _⟩ := hx
      obtain ⟨od, ho, _⟩ := lookIn_ns hns
      exact ⟨some od, hget, hz.1, nc, by rw [hz.2, ed]; exact ho⟩
  exact PySem.W.kia_one (kit_err C) I.kIn J e (fun y => nomatch y) fun tk => ⟨.bl b, H, I.kept (t' := tk) fun _ _ y => y, rfl, q⟩
theorem pe_warm {k : Nat} {g : Addr} {x y : Str} {pr : Arguments} {bd : List Stmt} {sc : Scope} {dV kV doc pm cdv ct oc : Value} {an od : Option Addr} {osl : Array (Option Value)} {N : List Str} {e : Expr} {te : TE} {t : TS} {p pos : Pos}
    (lk : X.K.lookup g = some ⟨oc, od, .func (PySem.W.fnOf x x pr bd sc dV kV doc pm an cdv ct), osl⟩) (hcd : PySem.W.codeIn X.K cdv x = true) (S : FnScope N [y] sc) (hr : L2H.RoomH (k + 1) X.A) (hp : (a, oe) ∈ X.pn)
    (hb : L2.Binds X.K (PySem.W.fnOf x x pr bd sc dV kV doc pm an cdv ct) [y] []) (hg : Gl X x) (hm : X.mg x = some (.ref g)) (hk : PySem.W.keepIn X.K (.ref g) = true)
    (hbody : ∀ (z : Shared) (H : Hp), PSs (cxP X.prog X.w X.K X.mg X.base N x sc g cdv X.A X.stack z H a oe) bd t) (he : PE X e te) (hdb : (x == ("__debug__" : Str)) = false := by decide)
    (hst : starEach [e] X.env = [(false, eval e X.env)] := by rfl) (hpl : (backTo pos (starEach [] X.env)).any (·.1) = false := by rfl) :
    PE X (.Call (.Name x p) [e] [] pos) (fun σ H Q => te σ H fun v H1 => v = .ref a ∧ t { nx := fun _ H' => Q .non H', rt := Q } (L2.start N [.ref a]) H1) := by
  refine ⟨fun pins z σ H Q I h => wpAny_Call_Name_kw (ld_glob I hg hm ?_ hdb)⟩
  let R : List V → Hp → Prop := fun vs H1 => match vs with
    | [v] => v = .ref a ∧ t { nx := fun _ H' => Q .non H', rt := Q } (L2.start N [.ref a]) H1
    | _ => False
  have ha : PA X [e] (tCons te tNil) := pa_cons he pa_nil hst
  refine PySem.W.callWith_K (h₀ := X.base) I.ok.mod.kin hk (thn (ha.run pos pins z σ H R I h) fun us z1 hh => ?_) hst hpl
  obtain ⟨vs, H1, I1, r1, q1⟩ := hh
  cases r1 with
  | nil => exact q1.elim
  | cons rv rr =>
    cases rr with
    | cons _ _ => exact q1.elim
    | nil =>
      obtain ⟨ev, ht⟩ := q1
      subst ev
      obtain rfl := rv
      have pin := I1.pin (a, oe) (List.mem_append_left _ hp)
      have hpin : L2H.PinOk X.stack H1 z1 (a, oe) := ⟨pin.1, pin.2.1, fun hm' => (List.mem_cons.mp (I1.stkSub a hm')).elim pin.2.2.1 pin.2.2.2.1, pin.2.2.2.2⟩
      refine ⟨I1.kIn, wpAny_call (codeAny_mono (warm_call lk hcd S hr I1.env0 hpin (hb z1 [.ref a] I1.kIn rfl) (hbody z1 H1) ht) fun r z2 hq => ?_)⟩
      cases r with
      | error err => exact False.elim hq
      | ok fl =>
        cases fl with
        | ret u => exact I1.after hq
        | next => exact False.elim hq
        | brk => exact False.elim hq
        | cont => exact False.elim hq
end
structure ErrIs (K : PySem.W.Frag) (x : Str) : Prop where
  mem : x ∈ errNames
  c : ExcC K (He.ga K x)
  k : ∀ y ∈ errNames, PySem.W.kitOne K (.ref (He.ga K x)) (.ref (He.ga K y)) = some (decide (x = y))
  v : PySem.W.kitOne K (.ref (He.ga K x)) (.type "ValueError") = some true
  s : PySem.W.exmOne K (.ref (He.ga K x)) (.ref (He.ga K "SortError")) = some true
theorem excCB_ok {K : PySem.W.Frag} {D : Addr} (h : excCB K D = true) : ExcC K D := by
  unfold excCB at h
  simp only [Bool.and_eq_true, decide_eq_true_eq] at h
  obtain ⟨h1, h2, h3, h4, h5, h6, h7, h8⟩ := h
  exact ⟨h1, h2, h3, h4, h5, h6, h7, h8⟩
theorem errB_ok {K : PySem.W.Frag} {x : Str} (h : errB x K = true) : ErrIs K x := by
  unfold errB at h
  simp only [Bool.and_eq_true, decide_eq_true_eq, List.all_eq_true] at h
  obtain ⟨h1, h2, h3, h4, h5⟩ := h
  exact ⟨h1, excCB_ok h2, h3, h4, h5⟩
def ErrNo (K : PySem.W.Frag) (x : Str) (d : Option Addr) (H : Hp) (v : V) : Prop :=
  if x = "BadRuns" ∨ x = "BadRows" ∨ x = "BadText" then ∃ dd fs, XfC K (He.ga K x) ∧ PySem.W.findIn K (.ref (He.ga K x)) (if x = "BadRuns" then ("number" : Str) else "place") = some none ∧ d = some dd ∧ H dd = some (.xd fs) ∧ fs.lookup (if x = "BadRuns" then ("number" : Str) else "place") = some v
  else d = none ∧ v = .int 0
def rErr (K : PySem.W.Frag) (cls : Value) (d : Option Addr) (H : Hp) (Q : VK) : Prop := ∃ x v, cls = .ref (He.ga K x) ∧ ErrIs K x ∧ ErrNo K x d H v ∧
  ∀ p H', H p = none → (∀ b o, H b = some o → H' b = some o) → H' p = some (.tup [.str x, v]) → Q (.ref p) H'
def tWarm (K : PySem.W.Frag) (i : Nat) (a : Addr) (cls : Value) (d : Option Addr) (N : List Str) (t : Addr → Addr → Option Addr → TS) : TE := fun σ H Q => σ[i]? = some (some (.ref a)) ∧ ∃ D, cls = .ref D ∧ ExcC K D ∧ t D a d { nx := fun _ H' => Q .non H', rt := Q } (L2.start N [.ref a]) H
def tErrF (K : PySem.W.Frag) (i : Nat) (a : Addr) (cls : Value) (d : Option Addr) (n : Str) : TE := fun σ H Q => σ[i]? = some (some (.ref a)) ∧ ∃ C dd fs v, cls = .ref C ∧ XfC K C ∧ PySem.W.findIn K (.ref C) n = some none ∧ d = some dd ∧ H dd = some (.xd fs) ∧ fs.lookup n = some v ∧ Q v H
structure WarmFn (P : Program) (w : World) (K : PySem.W.Frag) (mg : Str → Option Value) (base : Heap) (x : Str) (N : List Str) (t : Addr → Addr → Option Addr → TS) : Prop where
  ex : ∃ (y : Str) (g : Addr) (pr : Arguments) (bd : List Stmt) (sc : Scope) (dV kV doc pm cdv ct oc : Value) (an od : Option Addr) (osl : Array (Option Value)),
    K.lookup g = some ⟨oc, od, .func (PySem.W.fnOf x x pr bd sc dV kV doc pm an cdv ct), osl⟩ ∧ PySem.W.codeIn K cdv x = true ∧ FnScope N [y] sc ∧ L2.Binds K (PySem.W.fnOf x x pr bd sc dV kV doc pm an cdv ct) [y] [] ∧ mg x = some (.ref g) ∧ PySem.W.keepIn K (.ref g) = true ∧
    ∀ (D a : Addr) (d : Option Addr) (oe : Obj), ExcC K D → Zc (.ref D) d oe → (∃ vs, oe.data = .fields vs) → ∀ (A : Around) (outer : List Env) (z : Shared) (H : Hp), PSs (cxP P w K mg base N x sc g cdv A outer z H a oe) bd (t D a d)
section
variable {X : Cx} {a : Addr} {cls : Value} {d : Option Addr} {oe : Obj} {pn : List (Addr × Obj)} {i : Nat} {n : Str} {p p2 pos : Pos}
theorem pe_warmV {k : Nat} {x : Str} {N : List Str} {t : Addr → Addr → Option Addr → TS} (F : WarmFn X.prog X.w X.K X.mg X.base x N t) (hr : L2H.RoomH (k + 1) X.A) (hp : (a, oe) ∈ X.pn) (hz : Zc cls d oe) (hf : ∃ vs, oe.data = .fields vs) (hg : Gl X x) (he : PE X (.Name n p2) (tVar i))
    (hdb : (x == ("__debug__" : Str)) = false := by decide) (hst : starEach [.Name n p2] X.env = [(false, eval (.Name n p2) X.env)] := by rfl) (hpl : (backTo pos (starEach [] X.env)).any (·.1) = false := by rfl) :
    PE X (.Call (.Name x p) [.Name n p2] [] pos) (tWarm X.K i a cls d N t) := by
  refine ⟨fun pins z σ H Q I h => ?_⟩
  obtain ⟨h1, D, rfl, C, ht⟩ := h
  obtain ⟨y, g, pr, bd, sc, dV, kV, doc, pm, cdv, ct, oc, an, od, osl, lk, hcd, S, hb, hm, hk, hbody⟩ := F.ex
  exact (pe_warm (t := t D a d) lk hcd S hr hp hb hg hm hk (fun z H => hbody D a d oe C hz hf _ _ z H) he hdb hst hpl).run pins z σ H Q I ⟨_, h1, rfl, ht⟩
theorem pe_errF (hz : Zc cls d oe) (hf : ∃ vs, oe.data = .fields vs) (he : PE (X.suite a ((a, oe) :: pn)) (.Name n p2) (tVar i)) {f : Str} (hb : attributeBase (.Name n p2) f X.env (eval (.Name n p2) X.env) = eval (.Name n p2) X.env := by rfl) :
    PE (X.suite a ((a, oe) :: pn)) (.Attribute (.Name n p2) f pos) (tErrF X.K i a cls d f) := by
  refine ⟨fun pins z σ H Q I h => ?_⟩
  obtain ⟨h1, C, dd, fs, v, rfl, hx, hn, hd, hH, hl, q⟩ := h
  exact (pe_xf hx hn hz hf he hb).run pins z σ H Q I ⟨_, h1, rfl, rfl, dd, fs, v, hd, hH, hl, q⟩
theorem pss_len {b : List Stmt} {t : TS} (h : PSs X b t) : PSs X b (fun D σ H => σ.length = X.N.length → t D σ H) := ⟨fun pins s σ H D I hh => h.run pins s σ H D I (hh I.len)⟩
end
def TTold (K : PySem.W.Frag) : (XK → Hp → VK → Prop) → Hp → VK → Prop := fun tl H Q => tl (fun cls d H' => rErr K cls d H' Q) H Q
theorem told_does {X : Cx} {Ng : List Str} {x y e n q : Str} {sg : Scope} {g : Addr} {cdg : Value} {b₀ : Stmt} {suite : List Stmt} {ts : Addr → Value → Option Addr → TS} {p1 p2 p3 p4 p7 p8 : Pos} (hge : sg.names.lookup e = some .globalImplicit) (hme : X.mg e = some (.ref (He.ga X.K "SortError"))) (hde : (e == ("__debug__" : Str)) = false)
    (nd : Ng.Nodup) (hi : Ng[1]? = some n) (hln : sg.names.lookup n = some .local) (h0 : ∀ f : Addr, (L2.start Ng [V.ref f])[0]? = some (some (V.ref f)))
    (hsu : ∀ (s : Shared) (H : Hp) (a : Addr) (oe : Obj) (cls : Value) (d : Option Addr) (pn : List (Addr × Obj)), Zc cls d oe → (∃ vs, oe.data = .fields vs) → PSs ((cxOf C8.CX0 X.prog X.w X.K X.mg X.base Ng x sg g cdg X.A X.stack s H C8.E0).nox.suite a ((a, oe) :: pn)) (b₀ :: suite) (ts a cls d))
    (hp : ∀ (a : Addr) (cls : Value) (d : Option Addr) (H : Hp) (Q : VK) (D : Ends) (σ : L2.St), rErr X.K cls d H Q → D.rt = Q → σ.length = Ng.length → ts a cls d D (σ.set 1 (some (.ref a))) H) :
    GivesTo X Ng x sg g cdg [.Try [.Return (some (.Call (.Name y p1) [] [] p2)) p3] [.ExceptHandler (some (.Name e p4)) (some n) (b₀ :: suite) p7] [] [] p8] y q (TTold X.K) := by
  intro f c' s H Q tl act hc h
  have hgl : Gl (cxOf C8.CX0 X.prog X.w X.K X.mg X.base Ng x sg g cdg X.A X.stack s H C8.E0).nox e := hge
  refine ⟨_, pss_one (ps_try_as (X := (cxOf C8.CX0 X.prog X.w X.K X.mg X.base Ng x sg g cdg X.A X.stack s H C8.E0).nox) (c := .ref (He.ga X.K "SortError")) (i := 1)
      (ts := fun a cls d D σ H => σ.length = Ng.length → ts a cls d D σ H)
      (tb := fun W D σ H => ∃ Ech : XK, (∀ cls d σ' H', Ech cls d H' → W cls d σ' H') ∧ σ[0]? = some (some (.ref f)) ∧ H c' = some (CodeO c' q) ∧ tl Ech H D.rt)
      rfl rfl nd hi hln ⟨hgl, hde, .inl hme⟩ LamX.takes0 (fun W pn xe tk _ => ?_) (fun a oe cls d pn hz hf => pss_len (hsu s H a oe cls d pn hz hf))), ?_⟩
  · refine ⟨fun pins z σ H' D I h' => ?_⟩
    obtain ⟨Ech, hW, h1, h2, h3⟩ := h'
    exact (pss_one (ps_ret (pos := p3) (act W pn xe Ech p1 p2 tk hW))).run pins z σ H' D I ⟨h1, h2, h3⟩
  · refine ⟨fun cls d H' => rErr X.K cls d H' Q, fun cls d σ' H' hx => ?_, h0 f, hc, h⟩
    obtain ⟨z, v, rfl, E, r⟩ := id hx
    exact ⟨true, E.s, fun _ a _ hl => hp a _ d H' Q _ σ' hx rfl (by simpa using hl), fun z => nomatch z⟩
abbrev Lams : Type := List (He.Defn × Str)
def tabs (T : Lams) (K : PySem.W.Frag) : List (Addr × Str) := T.map fun p => ((He.cT K p.1).2, p.2)
structure TabF (K : PySem.W.Frag) (mg : Str → Option Value) (base : Heap) (T : Lams) : Prop where
  tb : ∀ p ∈ T, TabB base mg (He.cT K p.1).1 (He.cT K p.1).2
  nd : ((tabs T K).map (·.1)).Nodup
theorem uniq_of : ∀ {T : List (Addr × Str)} {c : Addr} {q : Str}, (T.map (·.1)).Nodup → (c, q) ∈ T → ∀ p ∈ T, p.1 = c → p.2 = q
  | [], _, _, _, h => nomatch h
  | z :: r, c, q, nd, h => fun p hp e => by
    rw [List.map_cons, List.nodup_cons] at nd
    rcases List.mem_cons.mp h with e1 | h1
    · rcases List.mem_cons.mp hp with e2 | h2
      · rw [e2, ← e1]
      · exact (nd.1 (List.mem_map.mpr ⟨p, h2, by rw [e, ← e1]⟩)).elim
    · rcases List.mem_cons.mp hp with e2 | h2
      · exact (nd.1 (List.mem_map.mpr ⟨_, h1, by rw [← e2, e]⟩)).elim
      · exact uniq_of nd.2 h1 p h2 e
structure ToldFn (P : Program) (w : World) (K : PySem.W.Frag) (mg : Str → Option Value) (base : Heap) (x : Str) : Prop where
  ex : ∃ (Ng : List Str) (y : Str) (g : Addr) (pr : Arguments) (bd : List Stmt) (sc : Scope) (dV kV doc pm cdv ct oc : Value) (an od : Option Addr) (osl : Array (Option Value)),
    K.lookup g = some ⟨oc, od, .func (PySem.W.fnOf x x pr bd sc dV kV doc pm an cdv ct), osl⟩ ∧ PySem.W.codeIn K cdv x = true ∧ L2.Binds K (PySem.W.fnOf x x pr bd sc dV kV doc pm an cdv ct) [y] [] ∧ FnScope Ng [y] sc ∧ Ng[0]? = some y ∧ Vis sc y ∧
    mg x = some (.ref g) ∧ PySem.W.keepIn K (.ref g) = true ∧ (y == ("__debug__" : Str)) = false ∧ (y == ("__classdict__" : Str)) = false ∧
    ∀ (X : Cx), X.prog = P → X.w = w → X.K = K → X.mg = mg → X.base = base → Room 2 X.A → ∀ q, GivesTo X Ng x sc g cdv bd y q (TTold K)
section
variable {X : Cx}
end
section
variable {P : Program} {w : World} {K : PySem.W.Frag} {mg : Str → Option Value} {base : Heap} {k : Nat} {x qual : Str} {at_ : Str × Option Str} {params : Arguments} {body : List Stmt} {scope : Scope} {N ps : List Str} {sp : Sp} {fd : FuncData}
theorem warm_of {t : Addr → Addr → Option Addr → TS} {y : Str} (F : FunD K x x params body scope [] [] (He.fAd K (x, none)) fd) (b : Binds K fd [y] []) (S : FnScope N [y] scope) (hm : mg x = some (.ref (He.fAd K (x, none))))
    (h : ∀ (D a : Addr) (d : Option Addr) (oe : Obj), ExcC K D → Zc (.ref D) d oe → (∃ vs, oe.data = .fields vs) → ∀ (cdv : Value) (A : Around) (outer : List Env) (z : Shared) (H : Hp), PSs (cxP P w K mg base N x scope (He.fAd K (x, none)) cdv A outer z H a oe) body (t D a d)) : WarmFn P w K mg base x N t := by
  obtain ⟨oc, od, dV, kV, doc, pm, an, cdv, ct, osl, rfl, lk, hcd, _, _⟩ := F.ex
  exact ⟨_, _, _, _, _, dV, kV, doc, pm, cdv, ct, oc, an, od, osl, lk, hcd, S, b, hm, F.kp, fun D a d oe C hz hf A outer z H => h D a d oe C hz hf cdv A outer z H⟩
theorem told_of {y : Str} (F : FunD K x x params body scope [] [] (He.fAd K (x, none)) fd) (b : Binds K fd [y] []) (S : FnScope N [y] scope) (hN : N[0]? = some y) (hv : Vis scope y) (hm : mg x = some (.ref (He.fAd K (x, none)))) (h1 : (y == ("__debug__" : Str)) = false) (h2 : (y == ("__classdict__" : Str)) = false)
    (h : ∀ (cdv : Value) (X : Cx), X.prog = P → X.w = w → X.K = K → X.mg = mg → X.base = base → Room 2 X.A → ∀ q, GivesTo X N x scope (He.fAd K (x, none)) cdv body y q (TTold K)) : ToldFn P w K mg base x := by
  obtain ⟨oc, od, dV, kV, doc, pm, an, cdv, ct, osl, rfl, lk, hcd, _, _⟩ := F.ex
  exact ⟨_, _, _, _, _, _, dV, kV, doc, pm, cdv, ct, oc, an, od, osl, lk, hcd, b, S, hN, hv, hm, F.kp, h1, h2, fun X => h cdv X⟩
end
def xCount (K : PySem.W.Frag) : V → List V → Hp → VK → Prop := fun x xs H Q => ∃ a ys y, x = V.ref a ∧ xs = [y] ∧ SqL K H a ys ∧ flatV y = true ∧ ys.all flatV = true ∧ Q (.int ((ys.countP fun z => eqV z y : Nat) : Int)) H
theorem countU : ∀ {ys : List V} {its : List Value} {y : V}, Vals ys its → ys.all flatV = true → its.countP (eqU y) = ys.countP fun z => eqV z y
  | _, _, _, .nil, _ => rfl
  | z :: ys, u :: its, y, .cons r rr, f => by
    rw [List.all_cons, Bool.and_eq_true] at f
    rw [List.countP_cons, List.countP_cons, countU rr f.2, eqU_of r f.1]
theorem mt_countF {X : Cx} : MtR X "list.count" (xCount X.K) := by
  intro pins z σ H x xs v us Q I rx rxs h
  obtain ⟨a, ys, y, rfl, rfl, hs, fy, fys, q⟩ := h
  cases rx
  obtain ⟨u, rfl, ru⟩ := rxs.one
  obtain ⟨its, rv, ⟨⟨cls, dd, data, sl⟩, n, ho, hc, hdn, hd⟩, hlen⟩ := I.list hs
  cases (show cls = _ from hc)
  cases (show data = _ from hd)
  refine call_meets PySem.F.slot_list_count ⟨_, ho, rfl⟩ PySem.F.entry_list_count (PySem.F.args_list_count_2 _ _) (SeqAt.list_countAt a its.toArray n dd sl u (eqU y)) ⟨ho, fun u' hu' => mem_eqAt ru fy rv fys u' (by simpa using hu'), ?_⟩
  have ec : its.toArray.toList.countP (eqU y) = ys.countP fun z => eqV z y := countU rv fys
  rw [ec]
  exact ⟨.int ((ys.countP fun z => eqV z y : Nat) : Int), H, I.tok _, ⟨_, rfl⟩, q⟩
theorem room_suite {A : Around} {env : Env} {h : Option Value} (r : Room 2 A) : L2H.RoomH 1 ((A.deeper env).mark h) := ⟨(r.deeper env).dp, (r.deeper env).un⟩
end Rs

namespace Rs
open PySem PySem.Spec PyProof.Rows L2
structure BaseInit (K : PySem.W.Frag) (S : Addr) : Prop where
  sp : PySem.W.specialIn K (.ref S) "__getattribute__" = some (some (.builtin "type.__getattribute__"))
  rd : PySem.W.readsIn K S (.type "type") = true
  fi : PySem.W.findCls K (.ref S) (.type "type") "__init__" = some (.val (.builtin "ValueError.__init__"))
structure ErrMk (K : PySem.W.Frag) (x f : Str) : Prop where
  oex : OexC K (He.ga K x)
  noF : PySem.W.findIn K (.ref (He.ga K x)) f = some none
  iC : PySem.W.findIn K (.ref (He.ga K x)) "__init__" = some (some (.ref (He.fAd K (x, some "__init__"))))
  tI : PySem.W.typeIn K (.ref (He.fAd K (x, some "__init__"))) = some (.type "function")
  base : BaseInit K (He.ga K "SortError")
section
variable {X : Cx} {e : Expr} {es : List Expr} {ta : TA} {p1 p2 pos : Pos}
end
section
variable {X : Cx} {E : XK} {k : Nat} {x f : Str} {e : Expr} {ta : TA} {p pos pos2 : Pos}
end
end Rs

namespace Rs
open PySem PySem.Spec PyProof.Rows L2 LamX
section
variable {X : Cx} {pins : List (Addr × Obj)} {σ : L2.St} {H : Hp} {s : Shared}
abbrev Backs (X : Cx) (s : Shared) (H : Hp) (scope : Scope) (ce : Env) (fp : List Addr) : Prop :=
  ∀ (p5 : List (Addr × Obj)) (σ5 : L2.St) (H5 : Hp) (s5 : Shared), Inv (X.blk s H scope ce fp) p5 σ5 H5 s5 → ∃ (p6 : List (Addr × Obj)) (σ6 : L2.St), Inv X p6 σ6 H5 s5
theorem pe_lcU {elt tg iter : Expr} {ifs : List Expr} {scope : Scope} {own : List (Str × Nat)} {pos : Pos} {wi : TI} {g : TG} {tt : TT} {te : TE} (calm : X.calm = true) (nod : X.N.Nodup) (pi : PI X tg iter wi) (ok : BlkOk X.N X.env.scope scope own)
    (pg : ∀ (s : Shared) (H : Hp) (C : Addr) (cl : List (Str × Addr)) (fp : List Addr), PG (X.blk s H scope (compEnvC scope cl C X.env) fp) tg g)
    (pt : ∀ (s : Shared) (H : Hp) (C : Addr) (cl : List (Str × Addr)) (fp : List Addr), Backs X s H scope (compEnvC scope cl C X.env) fp → PTs (X.blk s H scope (compEnvC scope cl C X.env) fp) ifs tt)
    (pe : ∀ (s : Shared) (H : Hp) (C : Addr) (cl : List (Str × Addr)) (fp : List Addr), Backs X s H scope (compEnvC scope cl C X.env) fp → PE (X.blk s H scope (compEnvC scope cl C X.env) fp) elt te)
    (fold : ∀ x, foldedSetIterable iter X.env x = pure x := by intro _; rfl) : PE X (.ListComp elt [⟨tg, iter, ifs, 0⟩] scope pos) (tLc wi g tt te (own.map (·.2))) := by
  refine ⟨fun pins s σ H Q I todo => ?_⟩
  rw [eval_ListComp]
  have cells : ∀ z ∈ scope.names, z.2 = .free → ∃ c, X.env.cells.lookup z.1 = some c := fun z hz e => I.ok.has _ (ok.free z hz e)
  refine wpAny_comprehension_free rfl fold (closure_ok cells) ok.kind (fun z hz e => by rw [ok.uniq z hz, e]) (thn (pi.run pins s σ H _ I todo) fun xv s1 q1 => thn q1 fun itv s2 q2 => ?_)
  obtain ⟨it, fp, tn, T0, H2, rfl, I2, T, t2, f2, q2⟩ := q2
  refine wpAny_newObj_type (newEnv_comp ?_) (Nat.zero_le _)
  obtain ⟨L, eL⟩ : ∃ L, s2.heap.objs.size = L := ⟨_, rfl⟩
  have L0 : H2 L = none := I2.hok.fresh (Nat.le_of_eq eL)
  obtain ⟨W, ⟨m0, w0⟩, turn⟩ := q2 L L0
  rw [eL]
  obtain ⟨sA, eA⟩ : ∃ sA : Shared, sA = { s2 with heap := s2.heap.push { cls := .type "list", data := .seq ([] : List Value).toArray } } := ⟨_, rfl⟩
  have hA : sA.heap = s2.heap.push { cls := .type "list", data := .seq ([] : List Value).toArray } := by rw [eA]
  have kA : ∀ b o, s2.heap.get? b = some o → sA.heap.get? b = some o := fun b o e => by
    rw [hA]
    exact Heap.get?_push_of_some _ e
  obtain ⟨HA, eH⟩ : ∃ HA, upd H2 L (.lst []) = HA := ⟨_, rfl⟩
  have IA : Inv X pins σ HA sA := by
    rw [eA, ← eH]
    refine I2.laid (t' := s2.toks) (fun b o e => Heap.get?_push_of_some _ e) (Nat.le_of_eq eL) ⟨Nat.zero_le _, [], 0, .nil, ?_⟩
    rw [← eL]
    exact Heap.get?_push_size _ rfl
  have sz : ∀ b ∈ fp, b < s2.heap.objs.size := fun b hb => let ⟨o, e, _⟩ := T.obj _ _ t2 b hb; Heap.lt_size e
  have fA : ∀ b ∈ fp, FpOk X pins HA b ∧ b < sA.heap.objs.size := fun b hb => by
    have := sz b hb
    refine ⟨⟨?_, (f2 b hb).2⟩, by rw [hA, Heap.size_push]; exact Nat.lt_succ_of_lt this⟩
    rw [← eH, upd_ne (by rw [← eL]; exact Nat.ne_of_lt this)]
    exact (f2 b hb).1
  have tA : tn 0 sA.heap := T.keep _ _ _ t2 fun b _ o e => kA b o e
  have IB := block_start IA ok nod fA
  have nA : ∀ b ∈ fp, HA b = none := fun b hb => (fA b hb).1.1
  rw [eH] at w0
  have bk : ∀ ce, Backs X sA HA scope ce fp := fun ce p5 σ5 H5 s5 J =>
    ⟨pins, σ, IA.call' (ch := fp) J.os J.base J.hok J.bare fun b hb => ⟨(fA b hb).1.2.2.2.1, (fA b hb).1.2.1, (fA b hb).1.2.2.2.2.1, (fA b hb).1.2.2.2.2.2⟩⟩
  have PGb := pg sA HA sA.heap.objs.size (cellsFrom (sA.heap.objs.size + 1) scope.names (cloFrom X.env.cells scope.names [])) fp
  have PTb := pt sA HA sA.heap.objs.size (cellsFrom (sA.heap.objs.size + 1) scope.names (cloFrom X.env.cells scope.names [])) fp (bk _)
  have PEb := pe sA HA sA.heap.objs.size (cellsFrom (sA.heap.objs.size + 1) scope.names (cloFrom X.env.cells scope.names [])) fp (bk _)
  show codeAny _ _ (.compStart _ 0 (.ref it) (.ref L) (compEnvC scope (cellsFrom ((s2.heap.push _).objs.size + 1) scope.names (cloFrom X.env.cells scope.names [])) (s2.heap.push _).objs.size X.env)) (compPost _ _ _ _ _ (.ref L) (s2.heap.push _).objs.size) { s2 with heap := pushCells ((s2.heap.push _).push { cls := .type "dict", data := .dict #[] }) scope.names }
  rw [← hA]
  obtain ⟨ce, eC⟩ : ∃ ce, compEnvC scope (cellsFrom (sA.heap.objs.size + 1) scope.names (cloFrom X.env.cells scope.names [])) sA.heap.objs.size X.env = ce := ⟨_, rfl⟩
  rw [eC] at IB PGb PTb PEb ⊢
  have cL : ce.locals = sA.heap.objs.size := by rw [← eC]; rfl
  rw [← cL]
  obtain ⟨sB, eB⟩ : ∃ sB : Shared, ({ sA with heap := pushCells (sA.heap.push { cls := .type "dict", data := .dict #[] }) scope.names } : Shared) = sB := ⟨_, rfl⟩
  have eB2 : ({ s2 with heap := pushCells (sA.heap.push { cls := .type "dict", data := .dict #[] }) scope.names } : Shared) = sB := by rw [← eB, eA]
  rw [eB2]
  rw [eB] at IB
  have tB : tn 0 sB.heap := T.keep _ _ _ tA fun b _ o e => by rw [← eB]; exact pushCells_keeps _ _ _ _ (Heap.get?_push_of_some _ e)
  have stat : ∀ {σ' : L2.St} {H' : Hp} {t : Shared}, Inv (X.blk sA HA scope ce fp) [] σ' H' t → (∀ b ∈ fp, H' b = none) → ∀ b ∈ fp, FpOk (X.blk sA HA scope ce fp) [] H' b := fun {σ' H' t} J hn b hb =>
    ⟨hn b hb, (J.ok.exf b hb).1, J.ok.exfs b hb, .inl hb, fun x c e => (J.ok.exf b hb).2 x c e, fun p hp => by simp at hp⟩
  have loop : codeAny (model X.prog X.w) X.A (.compLoop (.ListComp elt [⟨tg, iter, ifs, 0⟩] scope pos) 0 (.ref it) (.ref L) ce) (compPost (model X.prog X.w) X.A X.xe none (EP X pins σ Q) (.ref L) ce.locals) sB := by
    refine compLoop_any (fun n t => ∃ j H', Inv (X.blk sA HA scope ce fp) [] (wipe σ (own.map (·.2))) H' t ∧ tn j t.heap ∧ (∀ b ∈ fp, H' b = none) ∧ W j n H') ?_ m0 ⟨0, HA, IB, tB, nA, w0⟩
    rintro n t5 ⟨j, H5, I5, t5', n5, w5⟩
    rcases turn j n H5 w5 with ⟨stop, fin⟩ | ⟨go, Nx, hNx, step⟩
    · refine thnF (T.done (X.blk sA HA scope ce fp) rfl rfl rfl calm j [] t5 _ H5 (fun _ _ => False) I5 (stat I5 n5) t5' stop) fun r t6 ⟨hr, I6⟩ => ?_
      subst hr
      have I7 : Inv X pins σ H5 t6 := IA.call' (ch := fp) I6.os I6.base I6.hok I6.bare fun b hb => ⟨(fA b hb).1.2.2.2.1, (fA b hb).1.2.1, (fA b hb).1.2.2.2.2.1, (fA b hb).1.2.2.2.2.2⟩
      have nC : H5 ce.locals = none := I6.free
      obtain ⟨m, hn, _⟩ := I6.loc
      have hn : t6.heap.Ns ce.locals m := hn
      obtain ⟨a0, a1, a2, a3, a4, a5⟩ := IA.fpOk (Nat.le_of_eq cL.symm) nC
      exact ⟨m, hn, fun h3 sb3 => ⟨.ref L, H5, I7.turned (t' := t6.toks) (fun b o hb e => (sb3.2 b hb).trans e) a0 a1 a3 a4 a5, rfl, fin⟩⟩
    · refine thnF (T.item (X.blk sA HA scope ce fp) rfl rfl rfl calm j [] t5 _ H5 (fun _ _ => False) I5 (stat I5 n5) t5' go) fun r t6 ⟨v, hr, q6⟩ => ?_
      subst hr
      refine thnF q6 fun _ t7 ⟨x, H7, I7, r7, y7, k7, n7⟩ => ?_
      refine thnF (PGb.run _ t7 _ H7 x v _ (I7.pinned (stat I7 n7) (T.obj _ _ k7)) r7 (step x H7 y7)) fun _ t8 ⟨σ8, H8, I8, hw8, q8⟩ => ?_
      refine thnF (PTb.run _ t8 σ8 H8 _ I8 q8) fun b t9 ⟨H9, I9, q9⟩ => ?_
      have next : ∀ {t : Shared} {H' : Hp}, Inv (X.blk sA HA scope ce fp) ([] ++ pinsAt fp t7.heap) σ8 H' t → Nx H' → ∃ m, m < n ∧ ∃ j H', Inv (X.blk sA HA scope ce fp) [] (wipe σ (own.map (·.2))) H' t ∧ tn j t.heap ∧ (∀ b ∈ fp, H' b = none) ∧ W j m H' := fun {t H'} J nx => by
        obtain ⟨m, hm, w'⟩ := hNx H' nx
        have pin : ∀ b ∈ fp, ∀ o, t7.heap.get? b = some o → t.heap.get? b = some o ∧ H' b = none := fun b hb o e =>
          let z := J.pin (b, o) (List.mem_append_right _ (List.mem_append_right _ (mem_pinsAt hb e)))
          ⟨z.1, z.2.1⟩
        refine ⟨m, hm, j + 1, H', (J.unpinned (pins := [])).weak (by rw [← hw8, wipe_length]) (fun k w e => by rw [← hw8] at e; exact (wipe_some e).1), T.keep _ _ _ k7 fun b hb o e => (pin b hb o e).1, fun b hb => ?_, w'⟩
        obtain ⟨o, e, _⟩ := T.obj _ _ k7 b hb
        exact (pin b hb o e).2
      cases b with
      | false =>
        simp only [Bool.false_eq_true, if_false] at q9 ⊢
        exact next I9 q9
      | true =>
        simp only [if_true] at q9 ⊢
        refine thnF (PEb.run _ t9 σ8 H9 _ I9 q9) fun z tz ⟨yv, Hz, Iz, rz, acc, eD, szD, nx⟩ => ?_
        exact app_ok (X := X.blk sA HA scope ce fp) Iz eD szD rz fun tq Iq => next Iq nx
  exact codeAny_compStart_list loop (T.self X.A 0 _ _ _ tB loop)
end
structure LamF where
  q : Str
  ps : Arguments
  body : Expr
  scope : Scope
  clo : List (Str × Addr)
  dn : Option Str
def LamF.dv (L : LamF) (T : Addr) : Value := match L.dn with
  | none => .none
  | some _ => .ref T
def LamF.fd (L : LamF) (pm cv ct : Value) (T : Addr) : FuncData := { PySem.W.kla_fn "<lambda>" L.q L.ps L.body L.scope L.clo pm cv ct with defaults := L.dv T }
def LamF.obj (L : LamF) (pm : Value) (c : Addr) (ct : Value) (T : Addr) : Obj := { cls := .type "function", data := .func (L.fd pm (.ref c) ct T) }
def LamO (L : LamF) (f c T : Addr) : HO := .ext fun h => ∃ pm ct, h.get? f = some (L.obj pm c ct T)
def LamIn (L : LamF) (f c T : Addr) (H : Hp) : Prop := H f = some (LamO L f c T) ∧ H c = some (CodeO c L.q) ∧ (L.dn ≠ none → H T = some (.tup [.int 0]))
def LamN (LS : List LamF) (j : Nat) (f : Addr) (H : Hp) : Prop := ∃ L c T, LS[j]? = some L ∧ LamIn L f c T H
theorem LamN.ext {LS : List LamF} {j : Nat} {f : Addr} {H H' : Hp} (h : LamN LS j f H) (e : ExtN H H') : LamN LS j f H' :=
  let ⟨L, c, T, a, b, d, g⟩ := h
  ⟨L, c, T, a, e _ _ b fun _ z => (by cases z), e _ _ d codeO_ne, fun n => e _ _ (g n) fun _ z => (by cases z)⟩
def tLamM (T : List (Addr × Str)) (LS : List LamF) (j : Nat) : TE := fun σ H Q => Tabs T H ∧ ∀ f H1, ExtN H H1 → Tabs T H1 → H f = none → LamN LS j f H1 → Q (.ref f) H1
structure LamD (N : List Str) (sc scope : Scope) : Prop where
  kind : scope.kind = .function
  co : scope.isCoroutine = false
  gen : scope.isGenerator = false
  loc : ∀ y ∈ scope.names, y.2 = .local → y.1 ∉ N
  own : ∀ y ∈ scope.names, y.2 ≠ .cell
  free : ∀ y ∈ scope.names, y.2 = .free → sc.names.lookup y.1 = some .cell ∨ sc.names.lookup y.1 = some .free
def lamDB (N : List Str) (sc scope : Scope) : Bool :=
  decide (scope.kind = .function) && (!scope.isCoroutine && (!scope.isGenerator && scope.names.all fun y => (!decide (y.2 = .local) || !decide (y.1 ∈ N)) && (!decide (y.2 = .cell) && (!decide (y.2 = .free) || (decide (sc.names.lookup y.1 = some .cell) || decide (sc.names.lookup y.1 = some .free))))))
theorem lamD_by {N : List Str} {sc scope : Scope} (h : lamDB N sc scope = true) : LamD N sc scope := by
  unfold lamDB at h
  simp only [Bool.and_eq_true, Bool.or_eq_true, Bool.not_eq_true', decide_eq_true_eq, decide_eq_false_iff_not, List.all_eq_true] at h
  obtain ⟨k1, k2, k3, k4⟩ := h
  exact ⟨k1, k2, k3, fun y hy e => ((k4 y hy).1).elim (fun z => absurd e z) id, fun y hy => (k4 y hy).2.1, fun y hy e => ((k4 y hy).2.2).elim (fun z => absurd e z) id⟩
theorem LamD.has {X : Cx} {N : List Str} {scope : Scope} (L : LamD N X.env.scope scope) (ok : X.Ok) : ∀ y ∈ scope.names, y.2 = .free → ∃ c, X.env.cells.lookup y.1 = some c := fun y hy e =>
  (L.free y hy e).elim (fun z => ok.has _ (.inl z)) fun z => ok.has _ (.inr z)
section
variable {X : Cx} {pins : List (Addr × Obj)} {σ : L2.St} {H : Hp} {s : Shared}
theorem lam_laid {L : LamF} {c' T : Addr} {g : Heap} {pm ct : Value} {t : Nat} {HT : Hp} (I : Inv X pins σ HT { s with heap := g, toks := t }) :
    Inv X pins σ (upd HT g.objs.size (LamO L g.objs.size c' T)) { s with heap := g.push (L.obj pm c' ct T), toks := t } := by
  have at_ : (g.push (L.obj pm c' ct T)).get? g.objs.size = some (L.obj pm c' ct T) := Heap.get?_push_size _ rfl
  refine I.laid (t' := t) (fun b o e => Heap.get?_push_of_some _ e) (Nat.le_refl _) ⟨⟨pm, ct, at_⟩, ⟨_, at_⟩, fun h1 h2 a st => ?_⟩
  obtain ⟨pm', ct', e⟩ := a
  exact ⟨pm', ct', st _ e⟩
theorem pe_lamM {T : Lams} {p0 : He.Defn} {LS : List LamF} {j : Nat} {params : Arguments} {body : Expr} {scope : Scope} {pos : Pos} (TF : TabF X.K X.mg X.base T) (hmT : (p0, X.env.qual ++ "<lambda>") ∈ T) (hcode : X.env.code = .ref (He.codeOf X.K p0))
    (hL : LS[j]? = some ⟨X.env.qual ++ "<lambda>", params, body, scope, cloFrom X.env.cells scope.names [], none⟩) (LS0 : lamDB X.N X.env.scope scope = true) (hdef : defaultsOf params X.env = ([], [])) : PE X (.Lambda params body scope pos) (tLamM (tabs T X.K) LS j) := by
  refine ⟨fun pins s σ H Q I h => ?_⟩
  obtain ⟨hT, h⟩ := h
  have mT : ((He.cT X.K p0).2, X.env.qual ++ "<lambda>") ∈ tabs T X.K := List.mem_map.mpr ⟨_, hmT, rfl⟩
  have un := uniq_of TF.nd mT
  have TB := TF.tb _ hmT
  have hfree := (lamD_by LS0).has I.ok
  generalize (He.cT X.K p0).2 = P at mT un TB
  generalize hq : X.env.qual ++ "<lambda>" = q at mT un hL
  obtain ⟨tab, hP, ht, ha⟩ := hT _ mT
  have bP : s.heap.BuiltinsAt X.mg P := TB.bm.keeps I.bk
  have gP : s.heap.get? P = some { cls := .none, data := .fields tab } := I.hok P _ hP
  refine PySem.W.kla_eval hdef ?_
  rw [hq]
  have new : ∀ {HT : Hp} {g : Heap} {c' : Addr} {pm ct : Value} {t : Nat}, s.heap.objs.size ≤ g.objs.size → Inv X pins σ HT { s with heap := g, toks := t } → ExtN H HT → Tabs (tabs T X.K) HT → HT c' = some (CodeO c' q) →
      EP X pins σ Q (.ref g.objs.size) { s with heap := g.push (PySem.W.kla_obj "<lambda>" q params body scope (cloFrom X.env.cells scope.names []) pm c' ct), toks := t } := fun {HT g c' pm ct t} hz J eN tN co => by
    have J2 := lam_laid (L := ⟨q, params, body, scope, cloFrom X.env.cells scope.names [], none⟩) (c' := c') (T := 0) (pm := pm) (ct := ct) J
    have fr : HT g.objs.size = none := J.hok.fresh (Nat.le_refl _)
    have fr0 : H g.objs.size = none := I.hok.fresh hz
    have up : ∀ b o, HT b = some o → upd HT g.objs.size (LamO ⟨q, params, body, scope, cloFrom X.env.cells scope.names [], none⟩ g.objs.size c' 0) b = some o := fun b o e => by
      rw [upd_ne (ne_of_none e fr)]
      exact e
    refine ⟨.ref g.objs.size, _, J2, rfl, h _ _ (fun b o e n => up b o (eN b o e n)) (tN.ext up) fr0 ⟨_, c', 0, hL, upd_same, up _ _ co, fun z => absurd rfl z⟩⟩
  cases hc : codeAmong pos tab.toList with
  | none =>
    refine PySem.W.kla_makeFunction (mg := X.mg) (P := P) (ps := tab) (closure_ok hfree) I.ok.glob (I.mod.glob.keeps I.bk) hcode (TB.code.keeps I.bk) gP ht hc TB.gP bP fun c' ctv g tk hx hge hlt hrec htb => ?_
    obtain ⟨c2, oc, vs, t, e2, hoc, hd, hv⟩ := hrec
    cases e2
    have nC : H c' = none := I.hok.fresh hge
    have J := inv_table (t' := tk) (more := #[rawInt pos.line, rawInt pos.col, .ref c']) (h' := g) (q := q) I hP (fun b o hb e => hx b o hb e) htb hge ⟨oc, vs, t, hoc, hd, hv⟩
    have eN : ExtN H (upd (upd H P (.tbl (tab ++ #[rawInt pos.line, rawInt pos.col, .ref c']))) c' (CodeO c' q)) := fun b o e n => by
      rw [upd_ne (ne_of_none e nC), upd_ne (fun z => n tab (Option.some.inj (e.symm.trans (by rw [z]; exact hP))))]
      exact e
    refine new (Nat.le_trans hge (Nat.le_of_lt hlt)) J eN (fun p hp => ?_) upd_same
    by_cases hb : p.1 = P
    · have e3 : (tab ++ #[rawInt pos.line, rawInt pos.col, .ref c']).toList = tab.toList ++ [rawInt pos.line, rawInt pos.col, .ref c'] := by simp
      rw [un p hp hb, hb]
      refine ⟨_, by rw [upd_ne (ne_of_none hP nC), upd_same], by rw [e3]; exact PySem.TriplesOk_snoc _ _ _ _ ht, fun p' cv hcv => ?_⟩
      rw [e3] at hcv
      rcases among_app _ ht hcv with z | z
      · obtain ⟨c0, e1, e2⟩ := ha p' cv z
        exact ⟨c0, e1, eN _ _ e2 codeO_ne⟩
      · exact ⟨c', z, upd_same⟩
    · obtain ⟨tab', a1, a2, a3⟩ := hT p hp
      refine ⟨tab', by rw [upd_ne (ne_of_none a1 nC), upd_ne hb]; exact a1, a2, fun p' cv hcv => ?_⟩
      obtain ⟨c0, e1, e2⟩ := a3 p' cv hcv
      exact ⟨c0, e1, eN _ _ e2 codeO_ne⟩
  | some cv =>
    obtain ⟨c', rfl, hco⟩ := ha pos cv hc
    refine PySem.W.kla_makeFunctionHit (mg := X.mg) (P := P) (ps := tab) (closure_ok hfree) I.ok.glob (I.mod.glob.keeps I.bk) hcode (TB.code.keeps I.bk) gP ht hc bP fun ctv g tk hx hsz => ?_
    exact new hsz (I.kept (t' := tk) fun b o e => hx b o e) (ExtN.refl H) hT hco
end
section
variable {M : Model} {A : Around} {E : Value → Shared → Prop} {z : Shared} {nm ql : Str} {ar : Arguments} {bdy : Expr} {sco : Scope} {en : Env} {cc TP : Addr} {tb : Array Value} {at_ : Pos} {ln : Nat} {mn : Str → Option Value} {cl : List (Str × Addr)} {Q : Value → Shared → Prop} {dv : Value}
theorem tail_new (c1 : closureFor sco en = pure cl) (c2 : en.globals = mainGlobals) (c3 : z.heap.Ns mainGlobals mn) (c4 : en.code = .ref cc) (C : PySem.W.CodeHd z.heap cc TP) (hp : z.heap.get? TP = some { cls := .none, data := .fields tb }) (ht : TriplesOk tb.toList)
    (no : codeAmong at_ tb.toList = none) (ne : mainGlobals ≠ TP) (bm : z.heap.BuiltinsAt mn TP)
    (k : ∀ c' ct g tk, Heap.ExtBut TP z.heap g → z.heap.objs.size ≤ c' → c' < g.objs.size → g.CodeRec (.ref c') ql → g.get? TP = some { cls := .none, data := .fields (tb ++ #[rawInt at_.line, rawInt at_.col, .ref c']) } →
      Q (.ref g.objs.size) { z with heap := g.push { cls := .type "function", data := .func { PySem.W.kla_fn nm ql ar bdy sco cl ((mn "__name__").getD .none) (.ref c') ct with defaults := dv } }, toks := tk }) :
    wpAny M A (makeTail nm ql ar (.expr bdy) sco en dv .none none at_ ln) Q E z := by
  obtain ⟨b1, b2, b3, b4, _, b6, b7, b8, b9, b10⟩ := bm
  unfold makeTail
  rw [c1, c2]
  refine wpAny_bind (wpAny_pure ?_)
  cases cl with
  | nil =>
    simp only [List.isEmpty_nil, if_true]
    refine wpAny_bind (wpAny_pure (wpAny_bind (wpAny_functionCodeX c4 (C.code hp ht) (C.tab hp) no fun c' g tk ex ge lt _ rc tt _ => ?_)))
    have c5 := c3.extBut ex ne
    exact wpAny_bind (wpAny_builtinsFor c5 b3 b4 (ex _ _ b6 b7) b8 b9 b10 (wpAny_bind (wpAny_nsGet c5 (wpAny_bind (wpAny_pure (wpAny_newObj_type (k c' .none g tk ex ge lt rc tt.2) (by size_fits)))))))
  | cons q r =>
    simp only [List.isEmpty_cons, Bool.false_eq_true, if_false]
    have C2 := C.keeps (h' := z.heap.push { cls := .type "tuple", data := .seq (((q :: r).mergeSort fun a b => a.1.cps.toList ≤ b.1.cps.toList).map (.ref ·.2)).toArray }) fun b o e => Heap.get?_push_of_some _ e
    refine wpAny_bind (wpAny_newTextTuple (wpAny_bind (wpAny_functionCodeX c4 (C2.code (Heap.get?_push_of_some _ hp) ht) (C2.tab (Heap.get?_push_of_some _ hp)) no fun c' g tk ex ge lt _ rc tt _ => ?_)))
    have c5 := (c3.push _).extBut ex ne
    have ex2 : Heap.ExtBut TP z.heap g := fun b o nb e => ex b o nb (Heap.get?_push_of_some _ e)
    have ge2 : z.heap.objs.size ≤ c' := by
      rw [Heap.size_push] at ge
      omega
    exact wpAny_bind (wpAny_builtinsFor c5 b3 b4 (ex2 _ _ b6 b7) b8 b9 b10 (wpAny_bind (wpAny_nsGet c5 (wpAny_bind (wpAny_pure (wpAny_newObj_type (k c' _ g tk ex2 ge2 lt rc tt.2) (by size_fits)))))))
theorem tail_old {cv : Value} (c1 : closureFor sco en = pure cl) (c2 : en.globals = mainGlobals) (c3 : z.heap.Ns mainGlobals mn) (c4 : en.code = .ref cc) (C : PySem.W.CodeHd z.heap cc TP) (hp : z.heap.get? TP = some { cls := .none, data := .fields tb }) (ht : TriplesOk tb.toList)
    (yes : codeAmong at_ tb.toList = some cv) (bm : z.heap.BuiltinsAt mn TP)
    (k : ∀ (ct : Value) (g : Heap) (tk : Tok), (∀ b o, z.heap.get? b = some o → g.get? b = some o) → z.heap.objs.size ≤ g.objs.size →
      Q (.ref g.objs.size) { z with heap := g.push { cls := .type "function", data := .func { PySem.W.kla_fn nm ql ar bdy sco cl ((mn "__name__").getD .none) cv ct with defaults := dv } }, toks := tk }) :
    wpAny M A (makeTail nm ql ar (.expr bdy) sco en dv .none none at_ ln) Q E z := by
  obtain ⟨b1, b2, b3, b4, _, b6, b7, b8, b9, b10⟩ := bm
  unfold makeTail
  rw [c1, c2]
  refine wpAny_bind (wpAny_pure ?_)
  cases cl with
  | nil =>
    simp only [List.isEmpty_nil, if_true]
    exact wpAny_bind (wpAny_pure (wpAny_bind (wpAny_functionCode_hit c4 (C.code hp ht) yes (wpAny_bind (wpAny_builtinsFor c3 b3 b4 b7 b8 b9 b10 (wpAny_bind (wpAny_nsGet c3 (wpAny_bind (wpAny_pure (wpAny_newObj_type (k .none z.heap z.toks (fun _ _ e => e) (Nat.le_refl _)) (by size_fits)))))))))))
  | cons q r =>
    simp only [List.isEmpty_cons, Bool.false_eq_true, if_false]
    have C2 := C.keeps (h' := z.heap.push { cls := .type "tuple", data := .seq (((q :: r).mergeSort fun a b => a.1.cps.toList ≤ b.1.cps.toList).map (.ref ·.2)).toArray }) fun b o e => Heap.get?_push_of_some _ e
    have c5 := c3.push { cls := .type "tuple", data := .seq (((q :: r).mergeSort fun a b => a.1.cps.toList ≤ b.1.cps.toList).map (.ref ·.2)).toArray }
    exact wpAny_bind (wpAny_newTextTuple (wpAny_bind (wpAny_functionCode_hit c4 (C2.code (Heap.get?_push_of_some _ hp) ht) yes (wpAny_bind (wpAny_builtinsFor c5 b3 b4 (Heap.get?_push_of_some _ b7) b8 b9 b10 (wpAny_bind (wpAny_nsGet c5 (wpAny_bind (wpAny_pure (wpAny_newObj_type (k _ _ z.toks (fun b o e => Heap.get?_push_of_some _ e) (by rw [Heap.size_push]; omega)) (by size_fits)))))))))))
end
section
variable {X : Cx}
theorem pe_lamD {T : Lams} {p0 : He.Defn} {LS : List LamF} {j jj : Nat} {y : Str} {params : Arguments} {body : Expr} {scope : Scope} {pos p1 : Pos} (TF : TabF X.K X.mg X.base T) (hmT : (p0, X.env.qual ++ "<lambda>") ∈ T) (hcode : X.env.code = .ref (He.codeOf X.K p0))
    (hL : LS[j]? = some ⟨X.env.qual ++ "<lambda>", params, body, scope, cloFrom X.env.cells scope.names [], some y⟩) (LS0 : lamDB X.N X.env.scope scope = true) (hdef : defaultsOf params X.env = ([eval (.Constant (.int 0) jj p1) X.env], [])) (hkw : params.kwonlyargs = []) : PE X (.Lambda params body scope pos) (tLamM (tabs T X.K) LS j) := by
  refine ⟨fun pins s0 σ H Q I0 h => ?_⟩
  obtain ⟨hT, h⟩ := h
  have mT : ((He.cT X.K p0).2, X.env.qual ++ "<lambda>") ∈ tabs T X.K := List.mem_map.mpr ⟨_, hmT, rfl⟩
  have un := uniq_of TF.nd mT
  have TB := TF.tb _ hmT
  have hfree := (lamD_by LS0).has I0.ok
  generalize (He.cT X.K p0).2 = P at mT un TB
  generalize hq : X.env.qual ++ "<lambda>" = q at mT un hL
  rw [arm_eval_Lambda, hdef]
  show wpAny _ _ (do let dv ← evalAll [eval (.Constant (.int 0) jj p1) X.env]; let kdv ← holding dv (evalAllOpt []); makeFunction "<lambda>" (X.env.qual ++ "<lambda>") params (.expr body) scope X.env dv kdv [] pos pos.line) _ _ _
  refine wpAny_bind ?_
  unfold evalAll
  refine wpAny_bind (thn ((pe_int (i := 0) (j := jj) (pos := p1)).run pins s0 σ H (fun v H1 => v = .int 0 ∧ H1 = H) I0 ⟨rfl, rfl⟩) fun u s ⟨v, H1, I, r1, q1⟩ => ?_)
  obtain ⟨rfl, rfl⟩ := q1
  refine wpAny_bind (wpAny_holding (wpAny_pure (wpAny_pure (wpAny_bind (wpAny_holding (wpAny_pure ?_))))))
  rw [makeFunction_eq, hkw]
  simp only [List.zip_nil_left, List.filterMap_nil, List.isEmpty_nil, List.isEmpty_cons, Bool.false_eq_true, if_true, if_false, pure_bind]
  refine wpAny_bind (wpAny_newTextTuple ?_)
  have I2 : Inv X pins σ (upd H1 s.heap.objs.size (.tup [.int 0])) { s with heap := s.heap.push { cls := .type "tuple", data := .seq #[u] }, toks := s.toks } := by
    refine I.laid (t' := s.toks) (fun b o e => Heap.get?_push_of_some _ e) (Nat.le_refl _) ⟨by decide, [u], .cons r1 .nil, ?_⟩
    exact ⟨_, Heap.get?_push_size _ rfl, rfl, _, rfl⟩
  have fT : H1 s.heap.objs.size = none := I.hok.fresh (Nat.le_refl _)
  have eT : ∀ b o, H1 b = some o → upd H1 s.heap.objs.size (.tup [.int 0]) b = some o := fun b o e => by
    rw [upd_ne (ne_of_none e fT)]
    exact e
  have aT : upd H1 s.heap.objs.size (.tup [.int 0]) s.heap.objs.size = some (.tup [.int 0]) := upd_same
  have hT2 := hT.ext eT
  have sz2 : s.heap.objs.size ≤ (s.heap.push { cls := .type "tuple", data := .seq #[u] }).objs.size := by
    rw [Heap.size_push]
    omega
  generalize upd H1 s.heap.objs.size (.tup [.int 0]) = H2 at I2 eT aT hT2
  have eS : ({ s with heap := s.heap.push { cls := .type "tuple", data := .seq #[u] }, toks := s.toks } : Shared) = { s with heap := s.heap.push { cls := .type "tuple", data := .seq #[u] } } := rfl
  rw [eS] at I2
  generalize hs2 : ({ s with heap := s.heap.push { cls := .type "tuple", data := .seq #[u] } } : Shared) = s2 at I2
  have hh2 : s2.heap = s.heap.push { cls := .type "tuple", data := .seq #[u] } := by rw [← hs2]
  rw [← hh2] at sz2
  rw [hq]
  generalize s.heap.objs.size = TT at sz2 aT fT
  obtain ⟨tab, hP, ht, ha⟩ := hT2 _ mT
  have bP : s2.heap.BuiltinsAt X.mg P := TB.bm.keeps I2.bk
  have gP : s2.heap.get? P = some { cls := .none, data := .fields tab } := I2.hok P _ hP
  have eN0 : ExtN H1 H2 := fun b o e _ => eT b o e
  have fin : ∀ {HT : Hp} {g : Heap} {c' : Addr} {pm ct : Value} {t : Nat}, TT ≤ g.objs.size → Inv X pins σ HT { s2 with heap := g, toks := t } → ExtN H2 HT → Tabs (tabs T X.K) HT → HT c' = some (CodeO c' q) → H1 g.objs.size = none →
      EP X pins σ Q (.ref g.objs.size) { s2 with heap := g.push { cls := .type "function", data := .func { PySem.W.kla_fn "<lambda>" q params body scope (cloFrom X.env.cells scope.names []) pm (.ref c') ct with defaults := .ref TT } }, toks := t } := fun {HT g c' pm ct t} hz J eN tN co fr0 => by
    have J2 := lam_laid (L := ⟨q, params, body, scope, cloFrom X.env.cells scope.names [], some y⟩) (c' := c') (T := TT) (pm := pm) (ct := ct) J
    have fr : HT g.objs.size = none := J.hok.fresh (Nat.le_refl _)
    have keep : ∀ b o, HT b = some o → upd HT g.objs.size (LamO ⟨q, params, body, scope, cloFrom X.env.cells scope.names [], some y⟩ g.objs.size c' TT) b = some o := fun b o e => by
      rw [upd_ne (ne_of_none e fr)]
      exact e
    refine ⟨.ref g.objs.size, _, J2, rfl, h _ _ (fun b o e n => keep b o (eN b o (eT b o e) n)) (tN.ext keep) fr0 ⟨_, c', TT, hL, upd_same, keep _ _ co, fun _ => keep _ _ (eN _ _ aT fun _ z => by cases z)⟩⟩
  have I0fresh : ∀ {n : Nat}, s2.heap.objs.size ≤ n → H1 n = none := fun {n} hn => by
    cases e : H1 n with
    | none => rfl
    | some o =>
      have := I2.hok.fresh hn
      rw [eT _ _ e] at this
      exact nomatch this
  cases hc : codeAmong pos tab.toList with
  | none =>
    refine tail_new (mn := X.mg) (TP := P) (tb := tab) (closure_ok hfree) I2.ok.glob (I2.mod.glob.keeps I2.bk) hcode (TB.code.keeps I2.bk) gP ht hc TB.gP bP fun c' ctv g tk hx hge hlt hrec htb => ?_
    obtain ⟨c2, oc, vs, t, e2, hoc, hd, hv⟩ := hrec
    cases e2
    have nC : H2 c' = none := I2.hok.fresh hge
    have J := inv_table (t' := tk) (more := #[rawInt pos.line, rawInt pos.col, .ref c']) (h' := g) (q := q) I2 hP (fun b o hb e => hx b o hb e) htb hge ⟨oc, vs, t, hoc, hd, hv⟩
    have eN : ExtN H2 (upd (upd H2 P (.tbl (tab ++ #[rawInt pos.line, rawInt pos.col, .ref c']))) c' (CodeO c' q)) := fun b o e n => by
      rw [upd_ne (ne_of_none e nC), upd_ne (fun z => n tab (Option.some.inj (e.symm.trans (by rw [z]; exact hP))))]
      exact e
    refine fin (Nat.le_trans sz2 (Nat.le_trans hge (Nat.le_of_lt hlt))) J eN (fun p hp => ?_) upd_same (I0fresh (Nat.le_trans hge (Nat.le_of_lt hlt)))
    by_cases hb : p.1 = P
    · have e3 : (tab ++ #[rawInt pos.line, rawInt pos.col, .ref c']).toList = tab.toList ++ [rawInt pos.line, rawInt pos.col, .ref c'] := by simp
      rw [un p hp hb, hb]
      refine ⟨_, by rw [upd_ne (ne_of_none hP nC), upd_same], by rw [e3]; exact PySem.TriplesOk_snoc _ _ _ _ ht, fun p' cv hcv => ?_⟩
      rw [e3] at hcv
      rcases among_app _ ht hcv with z | z
      · obtain ⟨c0, e1, e2⟩ := ha p' cv z
        exact ⟨c0, e1, eN _ _ e2 codeO_ne⟩
      · exact ⟨c', z, upd_same⟩
    · obtain ⟨tab', a1, a2, a3⟩ := hT2 p hp
      refine ⟨tab', by rw [upd_ne (ne_of_none a1 nC), upd_ne hb]; exact a1, a2, fun p' cv hcv => ?_⟩
      obtain ⟨c0, e1, e2⟩ := a3 p' cv hcv
      exact ⟨c0, e1, eN _ _ e2 codeO_ne⟩
  | some cv =>
    obtain ⟨c', rfl, hco⟩ := ha pos cv hc
    refine tail_old (mn := X.mg) (TP := P) (tb := tab) (closure_ok hfree) I2.ok.glob (I2.mod.glob.keeps I2.bk) hcode (TB.code.keeps I2.bk) gP ht hc bP fun ctv g tk hx hsz => ?_
    exact fin (Nat.le_trans sz2 hsz) (I2.kept (t' := tk) fun b o e => hx b o e) (ExtN.refl H2) hT2 hco (I0fresh hsz)
end
section
variable {X : Cx} {pins : List (Addr × Obj)} {σ : L2.St} {HX H HZ : Hp} {sX s s1 : Shared}
theorem lam_in {A : Around} {outer : List Env} {E : XK} {scope : Scope} {f c' : Addr} {g : Heap} {tk : Nat} {fs : List Addr} (I : Inv X pins σ HX sX) (L : LamD X.N X.env.scope scope) (e0 : Env0 X.prog X.w X.K X.mg X.base A outer s1 HZ) (hd : A.handled = none)
    (un : Un fs [] HX HZ sX.heap s1.heap) {bs : List (Str × Value)} (ns : g.Ns s1.heap.objs.size fun y => bs.reverse.lookup y) (kp : ∀ b o, s1.heap.get? b = some o → g.get? b = some o) :
    Inv (lamCx X A outer s1 HZ E scope f c') [] σ HZ { s1 with heap := g, toks := tk } := by
  have has := L.has I.ok
  have back : ∀ {y c}, (cloFrom X.env.cells scope.names []).lookup y = some c → X.env.cells.lookup y = some c := fun {y c} e => by
    rcases cloFrom_mem (PySem.mem_of_lookup e) with hm | ⟨h1, h2⟩
    · exact nomatch hm
    · obtain ⟨d, hc⟩ := has _ h1 rfl
      have hc : X.env.cells.lookup y = some d := hc
      rw [show c = d by rw [h2, hc] <;> rfl]
      exact hc
  have fw : ∀ {y}, scope.names.lookup y = some .free → ∃ c, (cloFrom X.env.cells scope.names []).lookup y = some c := fun {y} hl =>
    mem_lookup (cloFrom_has (cells := X.env.cells) (acc := []) (show (y, NameKind.free) ∈ scope.names from PySem.mem_of_lookup hl))
  have stays : ∀ {c : Addr} {v : Option Value}, HX c = none → sX.heap.IsCell c v → g.IsCell c v := fun {c v} n ⟨o, ho, hd⟩ => by
    obtain ⟨sl, q⟩ := un.any ho n (by simp)
    exact ⟨_, kp _ _ q, hd⟩
  have noex : ∀ b : Addr, b ∉ (lamCx X A outer s1 HZ E scope f c').ex := fun b z => nomatch (show b ∈ ([] : List Addr) from z)
  have seen : ∀ y, scope.names.lookup y = some .free → Vis X.env.scope y := fun y k => .inr (L.free _ (PySem.mem_of_lookup k) rfl)
  refine ⟨⟨e0.mod, L.kind, rfl, rfl, Nat.le_refl _, fun y z c e1 e2 => I.ok.inj y z c (back e1) (back e2), fun y hy => ?_, fun y c z _ => ?_, fun _ => hd, Around.frames_deeper e0.frames, .inr ⟨rfl, rfl⟩, fun b z => absurd z (noex b), e0.bs, e0.bsz, fun b _ _ => noex b, fun b z => absurd z (noex b), e0.funs, e0.frf⟩,
    rfl, e0.bare, Un.kept kp, ⟨_, ns, fun i y v e1 e2 e3 => ?_⟩, fun y c e => ?_, e0.hok.fresh (Nat.le_refl _), fun y c e => ?_, fun q hq => absurd (show q ∈ ([] : List (Addr × Obj)) ++ [] from hq) (by simp), e0.hok.kept kp, I.len⟩
  · rcases (show scope.names.lookup y = some .cell ∨ scope.names.lookup y = some .free from hy) with k | k
    · exact (L.own _ (PySem.mem_of_lookup k) rfl).elim
    · exact fw k
  · exact nomatch (show false = true from z)
  · rcases (show Vis scope y from e3) with k | k | k
    · exact (L.loc _ (PySem.mem_of_lookup k) rfl (List.mem_of_getElem? (show X.N[i]? = some y from e1))).elim
    · exact (L.own _ (PySem.mem_of_lookup k) rfl).elim
    · obtain ⟨m, hn, hl⟩ := I.loc
      obtain ⟨u, r, q⟩ := hl i y v e1 e2 (seen y k)
      obtain ⟨d, h2⟩ := fw k
      have c1 := back h2
      refine ⟨u, r, .inr ⟨.inr k, d, h2, ?_⟩⟩
      rcases q with ⟨k', _⟩ | ⟨_, c3, e', z⟩
      · have k' : X.env.scope.names.lookup y = some .local := k'
        rcases L.free _ (PySem.mem_of_lookup k) rfl with k2 | k2
        · rw [show X.env.scope.names.lookup y = _ from k2] at k'
          exact nomatch k'
        · rw [show X.env.scope.names.lookup y = _ from k2] at k'
          exact nomatch k'
      · rw [c1] at e'
        cases e'
        exact stays (I.freeC y _ c1) z
  · obtain ⟨v, z⟩ := I.cell y c (back e)
    exact ⟨v, stays (I.freeC y c (back e)) z⟩
  · obtain ⟨v, o, ho, _⟩ := I.cell y c (back e)
    exact un.free c o ho (I.freeC y c (back e)) (by simp)
structure LamOk (X : Cx) (k : Nat) (L : LamF) (t : XK → TE) : Prop where
  q : L.q = X.env.qual ++ "<lambda>"
  clo : L.clo = cloFrom X.env.cells L.scope.names []
  sc : lamDB X.N X.env.scope L.scope = true
  bind0 : L.dn = none → ∀ (pm cv ct : Value), bindArgs (PySem.W.kla_fn "<lambda>" L.q L.ps L.body L.scope L.clo pm cv ct) ⟨[], []⟩ = pure []
  bind1 : ∀ y, L.dn = some y → L.scope.names.lookup y = some .local ∧ ∀ (pm cv ct : Value) (T : Addr), ∃ k : Option (Array Value) → Sem (List (Str × Value)), bindArgs { PySem.W.kla_fn "<lambda>" L.q L.ps L.body L.scope L.clo pm cv ct with defaults := .ref T } ⟨[], []⟩ = seqItems? (.ref T) >>= k ∧ ∀ u, k (some #[u]) = pure [(y, u)]
  body : ∀ (A : Around) (outer : List Env) (s : Shared) (H : Hp) (E : XK) (f c' : Addr), Room k (A.deeper (lamEnv X L.scope s.heap.objs.size f c')) → PE (lamCx X A outer s H E L.scope f c') L.body (t E)
theorem lam_binds {X : Cx} {k : Nat} {L : LamF} {t : XK → TE} (O : LamOk X k L t) {M : Model} {A : Around} {pm cv ct : Value} {T : Addr} {z : Shared} {H : Hp} {Q : List (Str × Value) → Shared → Prop} {E : Value → Shared → Prop} {P : Program} {w : World}
    (hT : L.dn ≠ none → ObjOk P w H z.heap T (.tup [.int 0])) (q : ∀ bs, (∀ b ∈ bs, L.scope.names.lookup b.1 = some .local) → Q bs z) : wpAny M A (bindArgs (L.fd pm cv ct T) ⟨[], []⟩) Q E z := by
  cases e : L.dn with
  | none =>
    have ed : L.dv T = .none := by unfold LamF.dv; rw [e]
    have e2 : L.fd pm cv ct T = PySem.W.kla_fn "<lambda>" L.q L.ps L.body L.scope L.clo pm cv ct := by unfold LamF.fd; rw [ed]
    rw [e2, O.bind0 e]
    exact wpAny_pure (q [] fun b hb => nomatch hb)
  | some y =>
    obtain ⟨loc, bd⟩ := O.bind1 y e
    obtain ⟨kk, e1, e3⟩ := bd pm cv ct T
    have ed : L.dv T = .ref T := by unfold LamF.dv; rw [e]
    have e2 : L.fd pm cv ct T = { PySem.W.kla_fn "<lambda>" L.q L.ps L.body L.scope L.clo pm cv ct with defaults := .ref T } := by unfold LamF.fd; rw [ed]
    obtain ⟨_, its, hv, o, ho, _, n, hd⟩ := hT (by rw [e]; exact fun z => nomatch z)
    cases hv with
    | cons r1 r2 =>
      cases r2
      rw [e2, e1]
      refine wpAny_bind (wpAny_seqItems ho hd ?_)
      rw [e3]
      refine wpAny_pure (q _ fun b hb => ?_)
      rw [List.mem_singleton.mp hb]
      exact loc
theorem act_lam {Ng : List Str} {qg : Str} {sg : Scope} {g f c' T : Addr} {cdg : Value} {L : LamF} {k i : Nat} {a : Str} {pn : List (Addr × Obj)} {xe : Value → Shared → Prop} {W : WX} {E : XK} {t : XK → TE} {p1 p2 : Pos} {A1 : Around} {outer1 : List Env}
    (I : Inv X pins σ HX sX) (O : LamOk X k L t) (un0 : Un (frs X.stack) [] HX H sX.heap s.heap) (sub : ∀ b ∈ frs X.stack, b ∈ frs outer1)
    (tk : Takes ((cxOf C8.CX0 X.prog X.w X.K X.mg X.base Ng qg sg g cdg A1 outer1 s H C8.E0).tr pn xe) W) (hW : ∀ cls d σ' H', E cls d H' → W cls d σ' H') (hr : Room (k + 1) (A1.deeper (envOfC qg sg s.heap.objs.size g cdg)))
    (hN : Ng[i]? = some a) (hv : Vis sg a) (hd : (a == ("__debug__" : Str)) = false) (hcd : (a == ("__classdict__" : Str)) = false) :
    PE ((cxOf C8.CX0 X.prog X.w X.K X.mg X.base Ng qg sg g cdg A1 outer1 s H C8.E0).tr pn xe) (.Call (.Name a p1) [] [] p2)
      (fun σZ HZ Q => σZ[i]? = some (some (.ref f)) ∧ HZ c' = some (CodeO c' L.q) ∧ (HZ f = some (LamO L f c' T) ∧ (L.dn ≠ none → HZ T = some (.tup [.int 0]))) ∧ t E σ HZ Q) := by
  have O' := O
  obtain ⟨q, ps, body, scope, clo, dn⟩ := L
  obtain ⟨e1, e2, sc, bind0, bind1, hbody⟩ := O
  dsimp only at e1 e2 sc bind0 bind1 hbody
  subst e1 e2
  have S := lamD_by sc
  refine ⟨fun pinsZ sZ σZ HZ Q IZ h => ?_⟩
  obtain ⟨hs, hc, ⟨hf, hfT⟩, ht⟩ := h
  refine wpAny_Call_Name_kw (thn ((pe_var (pos := p1) (i := i) hN hv hd hcd).run pinsZ sZ σZ HZ (fun v H1 => v = .ref f ∧ H1 = HZ) IZ ⟨.ref f, hs, rfl, rfl⟩) fun u s1 ⟨v, H1, I1, r1, q1⟩ => ?_)
  obtain ⟨rfl, rfl⟩ := q1
  obtain rfl : u = Value.ref f := r1
  obtain ⟨⟨pm, ct, of1⟩, _, _⟩ := I1.hok f _ hf
  refine PySem.W.callWith_F0 ⟨_, _, _, _, of1⟩ ?_
  obtain ⟨⟨oc, vs, t', hoc, hdc, hvc⟩, _, _⟩ := I1.hok c' _ hc
  have un : Un (frs outer1) [] HX H1 sX.heap s1.heap := (un0.mono sub fun b z => z).trans I1.base
  have rc : codeAny (model X.prog X.w) (A1.deeper (envOfC qg sg s.heap.objs.size g cdg)) (.call (.ref f) ⟨[], []⟩) (CR (L2.CX X.prog X.w) (envOfC qg sg s.heap.objs.size g cdg :: outer1) X.prog X.w H1 s1 Q E) s1 := by
    refine PySem.W.kla_callFunE hr.depth of1 rfl S.co S.gen rfl ⟨c', oc, vs, t', rfl, hoc, hdc, hvc⟩ ?_
    refine lam_binds O' (T := T) (fun n => I1.hok T _ (hfT n)) fun bs hbs => ?_
    refine wpAny_newFunctionEnv (fun y hy => S.own y hy) hbs (fun h₁ hns hsb => ⟨I1.nolimit.fresh _ hsb, ?_⟩) S.kind
    show codeAny _ _ (.expr body (lamEnv X scope s1.heap.objs.size f c')) _ _
    have kp : ∀ b o, s1.heap.get? b = some o → h₁.get? b = some o := fun b o e => hsb.extBut b o (Nat.ne_of_lt (Heap.lt_size e)) (Heap.get?_push_of_some _ e)
    have J := lam_in (E := E) (f := f) (c' := c') (tk := s1.toks + bs.length) I S I1.env0 hr.hd un hns kp
    refine PySem.W.kla_codeExpr (wpAny_mono ((hbody _ _ s1 H1 E f c' (hr.deeper _)).run [] _ _ H1 Q J ht) (fun v s' hq => ?_) fun e s' hq => hq)
    obtain ⟨w', H', J', rv, q⟩ := hq
    exact ⟨w', H', J'.os, J'.bare, J'.base, J'.hok, rv, q⟩
  refine wpAny_call (codeAny_mono rc fun r s' hq => ?_)
  cases r with
  | error e => exact passes_call tk hW pinsZ σZ H1 s1 e s' I1 hq
  | ok fl =>
    cases fl with
    | ret u => exact I1.after hq
    | next => exact hq.elim
    | brk => exact hq.elim
    | cont => exact hq.elim
end
def tToldV (K : PySem.W.Frag) (LS : List LamF) (tt : Nat → XK → Hp → VK → Prop) (i : Nat) : TE := fun σ H Q => ∃ f j, σ[i]? = some (some (.ref f)) ∧ LamN LS j f H ∧ tt j (fun cls d H' => rErr K cls d H' Q) H Q
section
variable {X : Cx} {pins : List (Addr × Obj)} {σ : L2.St} {HX : Hp} {sX : Shared}
abbrev allCx (X : Cx) (N : List Str) (x : Str) (sc : Scope) (g : Addr) (cd : Value) (s : Shared) (H : Hp) : Cx := cxOf C8.CX0 X.prog X.w X.K X.mg X.base N x sc g cd X.A X.stack s H C8.E0
theorem pe_toldV {N : List Str} {xa x a : Str} {sc scope : Scope} {ga C : Addr} {cda : Value} {LS : List LamF} {ts : Nat → XK → TE} {k i : Nat} {s3 : Shared} {H3 : Hp} {cl : List (Str × Addr)} {fp : List Addr} {p1 p2 p3 : Pos}
    (I : Inv X pins σ HX sX) (F : ToldFn X.prog X.w X.K X.mg X.base x) (hL : ∀ j L E σ H Q, ts j E σ H Q → LS[j]? = some L → LamOk X k L (ts j)) (hr : Room (k + 3) X.A)
    (bk : Backs (allCx X N xa sc ga cda sX HX) s3 H3 scope (compEnvC scope cl C (allCx X N xa sc ga cda sX HX).env) fp) (hg : Gl ((allCx X N xa sc ga cda sX HX).blk s3 H3 scope (compEnvC scope cl C (allCx X N xa sc ga cda sX HX).env) fp) x)
    (hN : N[i]? = some a) (hv : Vis (compEnvC scope cl C (allCx X N xa sc ga cda sX HX).env).scope a) (hdb : (x == ("__debug__" : Str)) = false) (hd : (a == ("__debug__" : Str)) = false) (hcd : (a == ("__classdict__" : Str)) = false) :
    PE ((allCx X N xa sc ga cda sX HX).blk s3 H3 scope (compEnvC scope cl C (allCx X N xa sc ga cda sX HX).env) fp) (.Call (.Name x p1) [.Name a p2] [] p3) (tToldV X.K LS (fun j E => ts j E σ) i) := by
  obtain ⟨Ng, y, g, pr, bd, sg, dV, kV, doc, pm, cdv, ct, oc, an, od, osl, lk, hcg, hb, Sg, hNg, hvg, hm, hk, h1, h2, hG⟩ := F.ex
  have rA : Room (k + 2) (allCx X N xa sc ga cda sX HX).A := hr.deeper _
  have bk : ∀ (p5 : List (Addr × Obj)) (σ5 : L2.St) (H5 : Hp) (s5 : Shared), Inv ((allCx X N xa sc ga cda sX HX).blk s3 H3 scope (compEnvC scope cl C (allCx X N xa sc ga cda sX HX).env) fp) p5 σ5 H5 s5 → ∃ (p6 : List (Addr × Obj)) (σ6 : L2.St), Inv (allCx X N xa sc ga cda sX HX) p6 σ6 H5 s5 := bk
  generalize hY : (allCx X N xa sc ga cda sX HX).blk s3 H3 scope (compEnvC scope cl C (allCx X N xa sc ga cda sX HX).env) fp = Y at bk hg ⊢
  have eP : Y.prog = X.prog := by rw [← hY]; rfl
  have eW : Y.w = X.w := by rw [← hY]; rfl
  have eK : Y.K = X.K := by rw [← hY]; rfl
  have eM : Y.mg = X.mg := by rw [← hY]; rfl
  have eB : Y.base = X.base := by rw [← hY]; rfl
  have eA : Y.A = (allCx X N xa sc ga cda sX HX).A := by rw [← hY]
  have eS : Y.stack = (allCx X N xa sc ga cda sX HX).stack := by rw [← hY]
  have eN : Y.N = N := by rw [← hY]; rfl
  have eE : Y.env = compEnvC scope cl C (allCx X N xa sc ga cda sX HX).env := by rw [← hY]
  refine ⟨fun pY s σY H Q IY h => ?_⟩
  obtain ⟨f, j, hf, ⟨L, c', T, hj, o1, o2, o3⟩, ht⟩ := h
  obtain ⟨p6, σ6, IZ⟩ := bk pY σY H s IY
  have un0 : Un (frs X.stack) [] HX H sX.heap s.heap := IZ.base
  have sub : ∀ b ∈ frs X.stack, b ∈ frs (allCx X N xa sc ga cda sX HX).stack := fun b hb => by
    obtain ⟨e, he, q⟩ := List.mem_filterMap.mp hb
    exact List.mem_filterMap.mpr ⟨e, List.mem_cons_of_mem _ he, q⟩
  refine wpAny_Call_Name_kw (ld_glob IY hg (by rw [eM]; exact hm) ?_ hdb)
  refine PySem.W.callWith_K (h₀ := Y.base) IY.ok.mod.kin (by rw [eK]; exact hk) ?_ (by rfl) (by rfl)
  show wpAny _ _ (spliced ((false, eval (.Name a p2) Y.env) :: backTo p3 (starEach [] Y.env))) _ _ s
  refine Calls.spliced_cons (thn ((pe_var (pos := p2) (i := i) (by rw [eN]; exact hN) (by rw [eE]; exact hv) hd hcd).run pY s σY H (fun v H1 => v = .ref f ∧ H1 = H) IY ⟨.ref f, hf, rfl, rfl⟩) fun u s1 ⟨v, H1, I1, r1, q1⟩ => ?_)
  obtain ⟨rfl, rfl⟩ := q1
  obtain rfl : u = Value.ref f := r1
  refine Calls.spliced_nil ⟨I1.kIn, ?_⟩
  have un1 : Un (frs X.stack) [] HX H1 sX.heap s1.heap := by
    obtain ⟨p7, σ7, IZ1⟩ := bk pY σY H1 s1 I1
    exact IZ1.base
  have rc : codeAny (model Y.prog Y.w) Y.A (.call (.ref g) ⟨[.ref f], []⟩) (CR C8.CX0 Y.stack Y.prog Y.w H1 s1 Q C8.E0) s1 := by
    have env1 := I1.env0
    rw [eP, eW, eK, eM, eB, eA, eS] at env1
    rw [eP, eW, eA, eS]
    refine run_ofS (N := Ng) (ps := [y]) (us := [.ref f]) (vs := [.ref f]) lk hcg Sg rA env1 (hb s1 [.ref f] (by rw [← eK]; exact I1.kIn) rfl) (.cons rfl .nil) rfl fun hr' => ?_
    obtain ⟨t', ht', hq'⟩ := hG (allCx X N xa sc ga cda sX HX) rfl rfl rfl rfl rfl (rA.mono (by omega)) L.q f c' s1 H1 Q (fun E H' Q' => (H' f = some (LamO L f c' T) ∧ (L.dn ≠ none → H' T = some (.tup [.int 0]))) ∧ ts j E σ H' Q')
      (fun W pn xe E p1 p2 tk hW => act_lam (X := X) (A1 := (allCx X N xa sc ga cda sX HX).A) (outer1 := (allCx X N xa sc ga cda sX HX).stack) (i := 0) I (hL j L _ _ _ _ ht hj) un1 sub tk hW hr' hNg hvg h1 h2) o2 ⟨⟨o1, o3⟩, ht⟩
    exact ⟨t', ht'.nox, hq'⟩
  refine wpAny_call (codeAny_mono rc fun r s2 hq => ?_)
  cases r with
  | error e => exact (show False from hq).elim
  | ok fl =>
    cases fl with
    | ret u => exact I1.after hq
    | next => exact hq.elim
    | brk => exact hq.elim
    | cont => exact hq.elim
end
def lamT (l : List (Nat × (XK → TE))) (j : Nat) : XK → TE := fun E σ H Q => ∃ t, l.lookup j = some t ∧ t E σ H Q
def LamsOk (X : Cx) (k : Nat) (LS : List LamF) (l : List (Nat × (XK → TE))) : Prop := ∀ j L t, l.lookup j = some t → LS[j]? = some L → LamOk X k L t
theorem lams_nil {X : Cx} {k : Nat} {LS : List LamF} : LamsOk X k LS [] := fun j L t h => nomatch h
theorem lams_cons {X : Cx} {k j : Nat} {LS : List LamF} {L : LamF} {t : XK → TE} {l : List (Nat × (XK → TE))} (e : LS[j]? = some L) (O : LamOk X k L t) (r : LamsOk X k LS l) : LamsOk X k LS ((j, t) :: l) := fun i L' t' h h2 => by
  rw [List.lookup_cons] at h
  split at h
  · rename_i c
    have c : i = j := by simpa using c
    subst c
    rw [e] at h2
    cases h2
    cases h
    exact O
  · exact r i L' t' h h2
theorem lams_put {X : Cx} {k j : Nat} {LS : List LamF} {t : XK → TE} {l : List (Nat × (XK → TE))} {q : Str} {ps : Arguments} {body : Expr} {scope : Scope} {clo : List (Str × Addr)} (e : LS[j]? = some ⟨q, ps, body, scope, clo, none⟩) (hq : q = X.env.qual ++ "<lambda>") (hc : clo = cloFrom X.env.cells scope.names [])
    (sc : lamDB X.N X.env.scope scope = true) (bind : ∀ (pm cv ct : Value), bindArgs (PySem.W.kla_fn "<lambda>" q ps body scope clo pm cv ct) ⟨[], []⟩ = pure [])
    (hb : ∀ (A : Around) (outer : List Env) (s : Shared) (H : Hp) (E : XK) (f c' : Addr), Room k (A.deeper (lamEnv X scope s.heap.objs.size f c')) → PE (lamCx X A outer s H E scope f c') body (t E)) (r : LamsOk X k LS l) : LamsOk X k LS ((j, t) :: l) :=
  lams_cons e ⟨hq, hc, sc, fun _ => bind, (fun y z => nomatch z), hb⟩ r
theorem lams_putD {X : Cx} {k j : Nat} {LS : List LamF} {t : XK → TE} {l : List (Nat × (XK → TE))} {q y : Str} {ps : Arguments} {body : Expr} {scope : Scope} {clo : List (Str × Addr)} (e : LS[j]? = some ⟨q, ps, body, scope, clo, some y⟩) (hq : q = X.env.qual ++ "<lambda>") (hc : clo = cloFrom X.env.cells scope.names [])
    (sc : lamDB X.N X.env.scope scope = true) (loc : scope.names.lookup y = some .local) (bind : ∀ (pm cv ct : Value) (T : Addr), ∃ k : Option (Array Value) → Sem (List (Str × Value)), bindArgs { PySem.W.kla_fn "<lambda>" q ps body scope clo pm cv ct with defaults := .ref T } ⟨[], []⟩ = seqItems? (.ref T) >>= k ∧ ∀ u, k (some #[u]) = pure [(y, u)])
    (hb : ∀ (A : Around) (outer : List Env) (s : Shared) (H : Hp) (E : XK) (f c' : Addr), Room k (A.deeper (lamEnv X scope s.heap.objs.size f c')) → PE (lamCx X A outer s H E scope f c') body (t E)) (r : LamsOk X k LS l) : LamsOk X k LS ((j, t) :: l) :=
  lams_cons e ⟨hq, hc, sc, (fun z => nomatch z), (fun z e => by cases e; exact ⟨loc, bind⟩), hb⟩ r
theorem lamT_eq {l : List (Nat × (XK → TE))} {j : Nat} {t : XK → TE} (h : l.lookup j = some t) : lamT l j = t := by
  funext E σ H Q
  unfold lamT
  rw [h]
  exact propext ⟨fun ⟨t', e, z⟩ => by cases e; exact z, fun z => ⟨t, rfl, z⟩⟩
theorem LamsOk.at {X : Cx} {k : Nat} {LS : List LamF} {l : List (Nat × (XK → TE))} (h : LamsOk X k LS l) : ∀ j L E σ H Q, lamT l j E σ H Q → LS[j]? = some L → LamOk X k L (lamT l j) := fun j L E σ H Q ht hj => by
  obtain ⟨t, e, _⟩ := ht
  rw [lamT_eq e]
  exact h j L t e hj
structure AllFn (P : Program) (w : World) (K : PySem.W.Frag) (mg : Str → Option Value) (base : Heap) (x told : Str) (Ng : List Str) (tr : List LamF → (Nat → XK → Hp → VK → Prop) → TS) (n : Nat) : Prop where
  ex : ∃ (y z : Str) (g : Addr) (pr : Arguments) (bd : List Stmt) (sc : Scope) (dV kV doc pm cdv ct oc : Value) (an od : Option Addr) (osl : Array (Option Value)),
    K.lookup g = some ⟨oc, od, .func (PySem.W.fnOf x x pr bd sc dV kV doc pm an cdv ct), osl⟩ ∧ PySem.W.codeIn K cdv x = true ∧ L2.Binds K (PySem.W.fnOf x x pr bd sc dV kV doc pm an cdv ct) [y, z] [] ∧ FnScope Ng [y, z] sc ∧
    mg x = some (.ref g) ∧ PySem.W.keepIn K (.ref g) = true ∧
    ∀ (X : Cx), X.prog = P → X.w = w → X.K = K → X.mg = mg → X.base = base → ∀ (s : Shared) (H : Hp), Room n (allCx X Ng x sc g cdv s H).A → ∀ (LS : List LamF) (tt : Nat → XK → Hp → VK → Prop),
      (∀ (scope : Scope) (s3 : Shared) (H3 : Hp) (C : Addr) (cl : List (Str × Addr)) (fp : List Addr) (i : Nat) (a : Str) (p1 p2 p3 : Pos), Backs (allCx X Ng x sc g cdv s H) s3 H3 scope (compEnvC scope cl C (allCx X Ng x sc g cdv s H).env) fp →
        Gl ((allCx X Ng x sc g cdv s H).blk s3 H3 scope (compEnvC scope cl C (allCx X Ng x sc g cdv s H).env) fp) told → Ng[i]? = some a → Vis (compEnvC scope cl C (allCx X Ng x sc g cdv s H).env).scope a → (told == ("__debug__" : Str)) = false → (a == ("__debug__" : Str)) = false → (a == ("__classdict__" : Str)) = false →
        PE ((allCx X Ng x sc g cdv s H).blk s3 H3 scope (compEnvC scope cl C (allCx X Ng x sc g cdv s H).env) fp) (.Call (.Name told p1) [.Name a p2] [] p3) (tToldV X.K LS tt i)) →
      PSs (allCx X Ng x sc g cdv s H) bd (tr LS tt)
def tAllC (LS : List LamF) (l : List (Nat × (XK → TE))) (tr : List LamF → (Nat → XK → Hp → VK → Prop) → TS) (N : List Str) (ta : TA) : TE := fun σ H Q => ta σ H fun vs H1 => vs.length = 2 ∧ tr LS (fun j E => lamT l j E σ) { nx := fun _ H' => Q .non H', rt := Q } (L2.start N vs) H1
theorem pe_allC {X : Cx} {x told : Str} {Ng : List Str} {tr : List LamF → (Nat → XK → Hp → VK → Prop) → TS} {n k : Nat} {LS : List LamF} {l : List (Nat × (XK → TE))} {e1 e2 : Expr} {ta : TA} {p pos : Pos} (F : AllFn X.prog X.w X.K X.mg X.base x told Ng tr n) (T : ToldFn X.prog X.w X.K X.mg X.base told) (hg : Gl X x)
    (hr : Room (k + 3) X.A) (hr2 : Room (n + 1) X.A) (ha : PA X [e1, e2] ta) (hL : LamsOk X k LS l)
    (hdb : (x == ("__debug__" : Str)) = false := by decide) (he : starEach [e1, e2] X.env = (false, eval e1 X.env) :: starEach [e2] X.env := by rfl) (hpl : (backTo pos (starEach [e2] X.env)).any (·.1) = false := by rfl) :
    PE X (.Call (.Name x p) [e1, e2] [] pos) (tAllC LS l tr Ng ta) := by
  obtain ⟨y, z, g, pr, bd, sc, dV, kV, doc, pm, cdv, ct, oc, an, od, osl, lk, hcd, hb, S, hm, hk, hbody⟩ := F.ex
  refine ⟨fun pins s σ H Q I h => ?_⟩
  refine wpAny_Call_Name_kw (ld_glob I hg hm ?_ hdb)
  refine PySem.W.callWith_K (h₀ := X.base) I.ok.mod.kin hk (thn (ha.run pos pins s σ H _ I h) fun us s1 ⟨vs, H1, I1, r, hl, q⟩ => ⟨I1.kIn, ?_⟩) he hpl
  have r' := r.length
  have rc : codeAny (model X.prog X.w) X.A (.call (.ref g) ⟨us, []⟩) (CR C8.CX0 X.stack X.prog X.w H1 s1 Q C8.E0) s1 := by
    refine run_ofS (N := Ng) (ps := [y, z]) (us := us) (vs := vs) lk hcd S hr2 I1.env0 (by have z := hb s1 us I1.kIn (by rw [List.append_nil, ← r', hl]; rfl); rw [List.append_nil] at z; exact z) r (by rw [hl]; rfl) fun hr' => ?_
    exact ⟨_, hbody X rfl rfl rfl rfl rfl s1 H1 hr' LS (fun j E => lamT l j E σ) (fun scope s3 H3 C cl fp i a p1 p2 p3 bk g1 g2 g3 g4 g5 g6 => pe_toldV I1 T hL.at hr bk g1 g2 g3 g4 g5 g6), q⟩
  refine wpAny_call (codeAny_mono rc fun r s2 hq => ?_)
  cases r with
  | error e => exact (show False from hq).elim
  | ok fl =>
    cases fl with
    | ret u => exact I1.after hq
    | next => exact hq.elim
    | brk => exact hq.elim
    | cont => exact hq.elim
section
variable {P : Program} {w : World} {K : PySem.W.Frag} {mg : Str → Option Value} {base : Heap} {k : Nat} {x qual : Str} {at_ : Str × Option Str} {params : Arguments} {body : List Stmt} {scope : Scope} {N ps : List Str} {sp : Sp} {fd : FuncData}
theorem all_of {y z told : Str} {n : Nat} {tr : List LamF → (Nat → XK → Hp → VK → Prop) → TS} (F : FunD K x x params body scope [] [] (He.fAd K (x, none)) fd) (b : Binds K fd [y, z] []) (S : FnScope N [y, z] scope) (hm : mg x = some (.ref (He.fAd K (x, none))))
    (h : ∀ (cdv : Value) (X : Cx), X.prog = P → X.w = w → X.K = K → X.mg = mg → X.base = base → ∀ (s : Shared) (H : Hp), Room n (allCx X N x scope (He.fAd K (x, none)) cdv s H).A → ∀ (LS : List LamF) (tt : Nat → XK → Hp → VK → Prop),
      (∀ (sc : Scope) (s3 : Shared) (H3 : Hp) (C : Addr) (cl : List (Str × Addr)) (fp : List Addr) (i : Nat) (a : Str) (p1 p2 p3 : Pos), Backs (allCx X N x scope (He.fAd K (x, none)) cdv s H) s3 H3 sc (compEnvC sc cl C (allCx X N x scope (He.fAd K (x, none)) cdv s H).env) fp →
        Gl ((allCx X N x scope (He.fAd K (x, none)) cdv s H).blk s3 H3 sc (compEnvC sc cl C (allCx X N x scope (He.fAd K (x, none)) cdv s H).env) fp) told → N[i]? = some a → Vis (compEnvC sc cl C (allCx X N x scope (He.fAd K (x, none)) cdv s H).env).scope a → (told == ("__debug__" : Str)) = false → (a == ("__debug__" : Str)) = false → (a == ("__classdict__" : Str)) = false →
        PE ((allCx X N x scope (He.fAd K (x, none)) cdv s H).blk s3 H3 sc (compEnvC sc cl C (allCx X N x scope (He.fAd K (x, none)) cdv s H).env) fp) (.Call (.Name told p1) [.Name a p2] [] p3) (tToldV X.K LS tt i)) →
      PSs (allCx X N x scope (He.fAd K (x, none)) cdv s H) body (tr LS tt)) : AllFn P w K mg base x told N tr n := by
  obtain ⟨oc, od, dV, kV, doc, pm, an, cdv, ct, osl, rfl, lk, hcd, _, _⟩ := F.ex
  exact ⟨_, _, _, _, _, _, dV, kV, doc, pm, cdv, ct, oc, an, od, osl, lk, hcd, b, S, hm, F.kp, fun X => h cdv X⟩
theorem fn_ofM (F : FunD K x qual params body scope [] [] (He.fAd K at_) fd) (S : FnScope N ps scope) (len : ∀ vs H Q E, sp vs H Q E → vs.length = ps.length)
    (t : List LamF → XK → TS) (h : ∀ (A : Around) (outer : List Env) (s : Shared) (H : Hp) (E : XK), Room k (A.deeper (envOfC qual scope s.heap.objs.size (He.fAd K at_) (.ref (He.codeOf K at_)))) →
      ∃ LS, PSs (cxOf (L2.CX P w) P w K mg base N qual scope (He.fAd K at_) (.ref (He.codeOf K at_)) A outer s H E) body (t LS E))
    (pure_ : ∀ LS vs H Q E, sp vs H Q E → t LS E { nx := fun _ H' => Q .non H', rt := Q } (start N vs) H) : FnOk P w K mg base (L2.CX P w) (k + 1) (He.fAd K at_) fd ps sp := by
  obtain ⟨oc, od, dV, kV, doc, pm, an, cdv, ct, osl, rfl, lk, hcd, _, _⟩ := F.ex
  obtain ⟨c, rfl⟩ := He.codeIn_ref hcd
  have e : He.codeOf K at_ = c := He.codeOf_eq lk rfl
  rw [e] at h
  exact fn_of lk hcd S len fun A outer s H vs Q E hr hsp => let ⟨LS, g⟩ := h A outer s H E hr; ⟨t LS E, g, pure_ LS vs H Q E hsp⟩
end
end Rs


namespace Rs
open PySem PySem.Spec PyProof.Rows L2
section
variable {X : Cx}
end
end Rs

namespace Rs
open PySem PySem.Spec PyProof.Rows L2
abbrev Hds := List (Option Pr)
def hd (hs : Hds) (s : Nat) : Option Pr := (hs.getD s none)
def hdV (hs : Hds) (s : Nat) : Pr := (hd hs s).getD c0.2
def pick (o : Ord) (hs : Hds) : Option Nat → Option Nat → Option Nat
  | none, b => b
  | some i, none => some i
  | some i, some j => if before o (hdV hs i) (hdV hs j) then some i else some j
def leafOf (hs : Hds) (s : Nat) : Option Nat := if (hd hs s).isSome then some s else none
def bst (bs : List (Option Nat)) (k : Nat) : Option Nat := bs.getD k none
structure TreeOk (o : Ord) (hs : Hds) (bs : List (Option Nat)) (many : Nat) (bad : Nat → Prop) : Prop where
  len : bs.length = 2 * many
  leaf : ∀ s, s < many → bst bs (many + s) = leafOf hs s
  knot : ∀ k, 1 ≤ k → k < many → ¬ bad k → bst bs k = pick o hs (bst bs (2 * k)) (bst bs (2 * k + 1))
theorem TreeOk.imp {o : Ord} {hs : Hds} {bs : List (Option Nat)} {many : Nat} {p q : Nat → Prop} (T : TreeOk o hs bs many p) (h : ∀ k, p k → q k) : TreeOk o hs bs many q := ⟨T.len, T.leaf, fun k a b c => T.knot k a b fun z => c (h k z)⟩
end Rs

namespace Rs
open PySem PySem.Spec PyProof.Rows L2
structure TxtTree (K : PySem.W.Frag) : Prop where
  cl : Cls K (He.ga K "Tree")
  n_order : NoAttr K (He.ga K "Tree") "order"
  n_heads : NoAttr K (He.ga K "Tree") "heads"
  n_many : NoAttr K (He.ga K "Tree") "many"
  n_looks : NoAttr K (He.ga K "Tree") "looks"
  n_best : NoAttr K (He.ga K "Tree") "best"
def f_Tree (x0 x1 x2 x3 x4 : V) : List (Str × V) := [(("order" : Str), x0), (("heads" : Str), x1), (("many" : Str), x2), (("looks" : Str), x3), (("best" : Str), x4)]
def TreeOb (K : PySem.W.Frag) (H : Hp) (p : Addr) (x0 x1 x2 x3 x4 : V) : Prop := ∃ dx, H p = some (.ins (He.ga K "Tree") dx (f_Tree x0 x1 x2 x3 x4))
section
variable {K : PySem.W.Frag} {x0 x1 x2 x3 x4 y : V} {H : Hp} {Q : VK} {p : Addr} {D : Ends} {σ : L2.St}
end
section
variable {K : PySem.W.Frag} {x0 x1 x2 x3 x4 y : V} {H : Hp} {Q : VK} {p dx : Addr} {D : Ends} {σ : L2.St}
end
theorem But.tupOf {S : List Addr} {H H' : Hp} (k : But S H H') (h : ∀ b ∈ S, ∀ xs, H b ≠ some (.tup xs)) : TupLe H H' := fun c xs e => k c _ e (fun hm => h c hm xs e)
theorem nt_lst {H : Hp} {b : Addr} {vs : List V} (h : H b = some (.lst vs)) : ∀ xs, H b ≠ some (.tup xs) := fun xs e => by rw [h] at e; cases e
theorem nt_ins {H : Hp} {b C dx : Addr} {fs : List (Str × V)} (h : H b = some (.ins C dx fs)) : ∀ xs, H b ≠ some (.tup xs) := fun xs e => by rw [h] at e; cases e
theorem all3 {P : Addr → Prop} {a b c : Addr} (h1 : P a) (h2 : P b) (h3 : P c) : ∀ x ∈ [a, b, c], P x := fun x hx => by
  simp only [List.mem_cons, List.not_mem_nil, or_false] at hx
  rcases hx with rfl | rfl | rfl <;> assumption
def NatAt : Rel (Option Nat) := fun _ v q => match q with
  | none => v = .non
  | some n => v = .int ((n : Nat) : Int)
theorem NatAt.st : Stable NatAt := fun _ _ _ _ _ h => h
structure TreeS (K : PySem.W.Frag) (H : Hp) (p lo lh lb : Addr) (o : Ord) (hs : Hds) (bs : List (Option Nat)) (many : Nat) (looks : Int) : Prop where
  ob : TreeOb K H p (.ref lo) (.ref lh) (.int (many : Int)) (.int looks) (.ref lb)
  ord : Lst TurnAt H lo o
  heads : Lst OptAt H lh hs
  best : Lst NatAt H lb bs
  nhb : lh ≠ lb
  noh : lo ≠ lh
  nob : lo ≠ lb
theorem TreeOb.keep {K : PySem.W.Frag} {H H' : Hp} {p : Addr} {x0 x1 x2 x3 x4 : V} (h : TreeOb K H p x0 x1 x2 x3 x4) (k : ∀ o, H p = some o → H' p = some o) : TreeOb K H' p x0 x1 x2 x3 x4 := let ⟨dx, e⟩ := h; ⟨dx, k _ e⟩
section
variable {K : PySem.W.Frag} {H H' : Hp} {p lo lh lb : Addr} {o : Ord} {hs hs' : Hds} {bs bs' : List (Option Nat)} {many : Nat} {looks looks' : Int} {vs : List V}
theorem TreeS.tup (T : TreeS K H p lo lh lb o hs bs many looks) (k : But [p, lh, lb] H H') : TupLe H H' := by
  obtain ⟨dx, e⟩ := T.ob
  obtain ⟨_, e2, _⟩ := T.heads
  obtain ⟨_, e3, _⟩ := T.best
  exact k.tupOf (all3 (nt_ins e) (nt_lst e2) (nt_lst e3))
theorem TreeS.keep (T : TreeS K H p lo lh lb o hs bs many looks) (t : TupLe H H') (k : ∀ b, b = p ∨ b = lo ∨ b = lh ∨ b = lb → ∀ u, H b = some u → H' b = some u) : TreeS K H' p lo lh lb o hs bs many looks :=
  ⟨T.ob.keep (k _ (.inl rfl)), T.ord.keep TurnAt.st t (k _ (.inr (.inl rfl))), T.heads.keep OptAt.st t (k _ (.inr (.inr (.inl rfl)))), T.best.keep NatAt.st t (k _ (.inr (.inr (.inr rfl)))), T.nhb, T.noh, T.nob⟩
theorem TreeS.same (T : TreeS K H p lo lh lb o hs bs many looks) (s : Same H H') : TreeS K H' p lo lh lb o hs bs many looks := T.keep (TupLe.same s) fun b _ u => s b u
end
def lk : Option Nat → Option Nat → Int
  | some _, some _ => 1
  | _, _ => 0
def HdOk (ks : List Str) (hs : Hds) (a : Option Nat) : Prop := ∀ i, a = some i → ∃ q, hs[i]? = some (some q) ∧ isRow ks q.2 = true
theorem HdOk.of {ks : List Str} {hs : Hds} {a : Option Nat} (hok : ∀ s p, hd hs s = some p → isRow ks p.2 = true) (h : ∀ s, a = some s → (hd hs s).isSome = true) : HdOk ks hs a := fun i hi => by
  have := h i hi
  cases hq : hd hs i with
  | none => rw [hq] at this; cases this
  | some q =>
    refine ⟨q, ?_, hok i q hq⟩
    unfold hd at hq
    rw [List.getD_eq_getElem?_getD] at hq
    cases e : hs[i]? with
    | none => rw [e] at hq; cases hq
    | some z => rw [e] at hq; rw [← hq]; rfl
end Rs

namespace Rs
open PySem PySem.Spec PyProof.Rows L2
theorem flat_set {α : Type} : ∀ {ts : List (List α)} {s : Nat} {p : α} {t : List α}, ts[s]? = some (p :: t) → ts.flatten.Perm (p :: (ts.set s t).flatten)
  | [], s, p, t, h => by simp at h
  | a :: ts, 0, p, t, h => by
    have e : a = p :: t := by simpa using h
    subst e
    exact .refl _
  | a :: ts, s + 1, p, t, h => by
    have ih := flat_set (ts := ts) (s := s) (by simpa using h)
    rw [List.set_cons_succ, List.flatten_cons, List.flatten_cons]
    exact (ih.append_left a).trans List.perm_middle
theorem hd_heads {ts : List (List Pr)} {j : Nat} {q : Pr} : hd (ts.map List.head?) j = some q ↔ ∃ r, ts[j]? = some (q :: r) := by
  unfold hd
  rw [List.getD_eq_getElem?_getD, List.getElem?_map]
  cases ts[j]? with
  | none => simp
  | some t =>
    cases t with
    | nil => simp
    | cons a t => simp
structure Mg (ks : List Str) (o : Ord) (found : List Pr) (ts : List (List Pr)) : Prop where
  fine : Fine ks (found ++ ts.flatten)
  up : Up o found
  ups : ∀ t ∈ ts, Up o t
  cross : ∀ x ∈ found, ∀ y ∈ ts.flatten, before o x y = true
theorem Mg.step {ks : List Str} {o : Ord} (ho : ∀ t ∈ o, t.1 < ks.length) {found : List Pr} {ts : List (List Pr)} (M : Mg ks o found ts) {s : Nat} {p : Pr} {t : List Pr} (h : ts[s]? = some (p :: t)) (low : ∀ j q, hd (ts.map List.head?) j = some q → before o q p = false) : Mg ks o (found ++ [p]) (ts.set s t) := by
  have pm := flat_set h
  have pm2 : ((found ++ [p]) ++ (ts.set s t).flatten).Perm (found ++ ts.flatten) := by
    rw [List.append_assoc]
    exact List.Perm.append_left _ pm.symm
  have fine2 := M.fine.perm pm2
  have sub : ∀ y ∈ (ts.set s t).flatten, y ∈ ts.flatten := fun y hy => pm.mem_iff.mpr (List.mem_cons_of_mem _ hy)
  have pin : p ∈ ts.flatten := pm.mem_iff.mpr (List.mem_cons_self ..)
  have ptm : (p :: t) ∈ ts := List.mem_of_getElem? h
  have upt := M.ups _ ptm
  have ne : ∀ y ∈ (ts.set s t).flatten, p.1 ≠ y.1 := fun y hy => by
    have nd := fine2.nd
    exact nodup_ne (xs := found ++ [p]) nd (by simp) hy
  have row : ∀ y ∈ ts.flatten, isRow ks y.2 = true := fun y hy => M.fine.row y (List.mem_append_right _ hy)
  refine ⟨fine2, ?_, ?_, ?_⟩
  · refine List.pairwise_append.mpr ⟨M.up, by simp, fun x hx y hy => ?_⟩
    rw [List.mem_singleton] at hy
    subst hy
    exact M.cross x hx _ pin
  · intro u hu
    rcases List.mem_or_eq_of_mem_set hu with z | z
    · exact M.ups u z
    · rw [z]; exact List.Pairwise.of_cons upt
  · intro x hx y hy
    rcases List.mem_append.mp hx with z | z
    · exact M.cross x z y (sub y hy)
    · rw [List.mem_singleton] at z
      subst z
      obtain ⟨u, hu, yu⟩ := List.mem_flatten.mp hy
      obtain ⟨j, hj, ej⟩ := List.mem_iff_getElem.mp hu
      rw [List.length_set] at hj
      rw [List.getElem_set] at ej
      split at ej
      · rw [← ej] at yu
        exact List.rel_of_pairwise_cons upt yu
      · rename_i hne
        cases hu2 : u with
        | nil => rw [hu2] at yu; simp at yu
        | cons q r =>
          rw [hu2] at ej yu
          have e2 : ts[j]? = some (q :: r) := by rw [List.getElem?_eq_getElem hj, ej]
          have lowq := low j q (hd_heads.mpr ⟨r, e2⟩)
          have qin : q ∈ (ts.set s t).flatten := List.mem_flatten.mpr ⟨q :: r, by
            refine List.mem_of_getElem? (i := j) ?_
            rw [List.getElem?_set_ne hne]
            exact e2, List.mem_cons_self ..⟩
          have rq := row q (sub q qin)
          have rx := row x pin
          have b1 := after_of ho rq rx (fun e => ne q qin e.symm) lowq
          rcases List.mem_cons.mp yu with w | w
          · rw [w]; exact b1
          · have ry := row y (sub y hy)
            have uq := M.ups _ (List.mem_of_getElem? e2)
            exact before_trans o (cmp_of ho rx rq) (cmp_of ho rq ry) b1 (List.rel_of_pairwise_cons uq w)
end Rs

namespace Rs
open PySem PySem.Spec PyProof.Rows L2
structure TxtSieve (K : PySem.W.Frag) : Prop where
  cl : Cls K (He.ga K "Sieve")
  n_kinds : NoAttr K (He.ga K "Sieve") "kinds"
  n_room : NoAttr K (He.ga K "Sieve") "room"
  n_many : NoAttr K (He.ga K "Sieve") "many"
def f_Sieve (x0 x1 x2 : V) : List (Str × V) := [(("kinds" : Str), x0), (("room" : Str), x1), (("many" : Str), x2)]
def SieveOb (K : PySem.W.Frag) (H : Hp) (p : Addr) (x0 x1 x2 : V) : Prop := ∃ dx, H p = some (.ins (He.ga K "Sieve") dx (f_Sieve x0 x1 x2))
section
variable {K : PySem.W.Frag} {x0 x1 x2 y : V} {H : Hp} {Q : VK} {p : Addr} {D : Ends} {σ : L2.St}
end
section
variable {K : PySem.W.Frag} {x0 x1 x2 y : V} {H : Hp} {Q : VK} {p dx : Addr} {D : Ends} {σ : L2.St}
end
structure SieveS (K : PySem.W.Frag) (H : Hp) (p : Addr) (kv : V) (pr lo lc : Addr) (ks : List Str) (o : Ord) (cs : List Cell) (many : Int) : Prop where
  ob : SieveOb K H p kv (.ref pr) (.int many)
  kinds : KindsAt H kv ks
  room : RoomS K H pr lo lc o cs
  ne : p ≠ pr
theorem SieveOb.keep {K : PySem.W.Frag} {H H' : Hp} {p : Addr} {x0 x1 x2 : V} (h : SieveOb K H p x0 x1 x2) (k : ∀ o, H p = some o → H' p = some o) : SieveOb K H' p x0 x1 x2 := let ⟨dx, e⟩ := h; ⟨dx, k _ e⟩
section
variable {K : PySem.W.Frag} {H H' : Hp} {p pr lo lc : Addr} {kv : V} {ks : List Str} {o : Ord} {cs cs' : List Cell} {many many' : Int}
theorem SieveS.tup (S : SieveS K H p kv pr lo lc ks o cs many) (k : But [p, lc] H H') : TupLe H H' := fun c xs e => by
  obtain ⟨dx, e1⟩ := S.ob
  obtain ⟨vs, e2, _⟩ := S.room.cells
  exact k c _ e (nn (ne_of e e1 (by intro z; cases z)) (ne_of e e2 (by intro z; cases z)))
theorem SieveS.same (S : SieveS K H p kv pr lo lc ks o cs many) (s : Same H H') : SieveS K H' p kv pr lo lc ks o cs many := ⟨S.ob.keep fun u => s p u, S.kinds.mono (TupLe.same s), S.room.same s, S.ne⟩
end
end Rs

namespace RsM
open PySem PySem.SeqAt
section
variable {prog : Program} {w : World} {A : Around} {R : Result → Shared → Prop} {I : Addr} {fp wr : List Addr} {n : Nat} {P : Nat → Value → Prop} {St : Nat → Heap → Prop}
def CmpSt (prog : Program) (w : World) (A : Around) (base : Heap) (P : Nat → Value → Prop) (bt : Nat → Nat → Bool) : Prop :=
  ∀ i j x y (z : Shared) (Qz : Value → Shared → Prop) (Ez : Value → Shared → Prop), j < i → (∀ c o, base.get? c = some o → z.heap.get? c = some o) → P i x → P j y → Qz (.bool (bt i j)) z → wpAny (model prog w) A (richCompare .Lt x y) Qz Ez z
theorem best_le (bt : Nat → Nat → Bool) : ∀ q, argBest bt q ≤ q
  | 0 => Nat.le_refl _
  | q + 1 => by
    unfold argBest
    have := best_le bt q
    split <;> omega
theorem more (W : Walks prog w A.in1 I fp wr n P St) {base : Heap} {bt : Nat → Nat → Bool} (cmp : CmpSt prog w A.in1 base P bt) {L : Addr} (nf : L ∉ fp) (old : ∀ c o, base.get? c = some o → c ∉ wr ∧ c ≠ L) :
    ∀ (m q : Nat) (z : Shared) (best : Value) (c : Nat), n - (q + 1) = m → q + 1 ≤ n → St (q + 1) z.heap → P (argBest bt q) best → (∀ c o, base.get? c = some o → z.heap.get? c = some o) →
    z.heap.get? L = some { cls := .type "list", dict := none, data := .seq #[best, best] c, slots := #[] } →
    (∀ v g tk, P (argBest bt (n - 1)) v → (∀ b o, b ∉ wr → b ≠ L → z.heap.get? b = some o → g.get? b = some o) → R (.ok (.ret v)) { z with heap := g, toks := tk }) →
    codeAny (model prog w) A (.builtin "min.loop" ⟨[.ref I, .none, .ref L], []⟩) R z := by
  have nw : L ∉ wr := fun h => nf (W.sub _ h)
  have nm : (toString "min" ++ toString ".loop" : String) = "min.loop" := by decide
  intro m
  induction m with
  | zero =>
    intro q z best c hm hq st pb hb hL fin
    have en : q + 1 = n := by omega
    refine codeAny_builtin F.entry_min_loop ?_; rw [Around.under_plainId F.plain_min_loop _]
    show wpAny _ A.in1 (seqItems? (.ref L) >>= _) _ _ z
    refine wpAny_bind (wpAny_seqItems hL rfl ?_); show wpAny _ A.in1 (tryCatch (pyNext (.ref I)) _ >>= _) _ _ z
    refine wpAny_bind (wpAny_tryCatch (W.done z _ _ (en ▸ st) fun g tk kp => ?_))
    have hL2 := kp L _ nw hL
    show wpAny _ A.in1 (updateSeq L (fun _ => #[]) >>= _) _ _ _
    refine wpAny_bind ?_
    refine wpAny_updateSeq hL2 rfl (wpAny_bind (wpAny_letGo (wpAny_pure ?_)))
    refine fin best _ tk (by rw [← en]; exact pb) fun b o hbw hbL e => (Heap.get?_update_other _ _ (Ne.symm hbL)).trans (kp b o hbw e)
  | succ m ih =>
    intro q z best c hm hq st pb hb hL fin
    have lt : q + 1 < n := by omega
    refine codeAny_builtin F.entry_min_loop ?_; rw [Around.under_plainId F.plain_min_loop _]
    show wpAny _ A.in1 (seqItems? (.ref L) >>= _) _ _ z
    refine wpAny_bind (wpAny_seqItems hL rfl ?_); show wpAny _ A.in1 (tryCatch (pyNext (.ref I)) _ >>= _) _ _ z
    refine wpAny_bind (wpAny_tryCatch (W.item (q + 1) z _ _ lt st fun v g tk pv st2 kp => ?_))
    have hL2 := kp L _ nw hL
    have hb2 : ∀ c o, base.get? c = some o → g.get? c = some o := fun c o e => kp c o (old c o e).1 (hb c o e)
    show wpAny _ A.in1 (tryCatch (holding [v, v] (richCompare .Lt v best >>= _)) _ >>= _) _ _ _
    refine wpAny_bind (wpAny_tryCatch (wpAny_holding (wpAny_bind (cmp (q + 1) (argBest bt q) v best _ _ _ (Nat.lt_succ_of_le (best_le bt q)) hb2 pv pb ?_))))
    refine wpAny_bind (wpAny_holding (wpAny_truthy_bool ?_)); refine wpAny_bind (wpAny_letGo (wpAny_pure ?_))
    cases hbt : bt (q + 1) (argBest bt q) with
    | true =>
      simp only [if_true]
      refine wpAny_bind ?_
      refine wpAny_updateSeq hL2 rfl (wpAny_bind (wpAny_letGo ?_))
      rw [nm]
      refine wpAny_pure ⟨plainId_quiet F.plain_min_loop _, ih (q + 1) _ v _ (by omega) lt (W.frame _ _ _ st2 fun b hbf o e => ?_) (by simp only [argBest, hbt, if_true]; exact pv) (fun c o e => ?_) (Heap.get?_update_self _ hL2 rfl) fun v' g' tk' pv' kp' => ?_⟩
      · exact (Heap.get?_update_other _ _ (fun h : L = b => nf (by rw [h]; exact hbf))).trans e
      · exact (Heap.get?_update_other _ _ (Ne.symm (old c o e).2)).trans (hb2 c o e)
      · exact fin v' g' tk' pv' fun b o hbw hbL e => kp' b o hbw hbL ((Heap.get?_update_other _ _ (Ne.symm hbL)).trans (kp b o hbw e))
    | false =>
      simp only [Bool.false_eq_true, if_false]
      refine wpAny_bind (wpAny_letGo ?_)
      rw [nm]
      refine wpAny_pure ⟨plainId_quiet F.plain_min_loop _, ih (q + 1) _ best c (by omega) lt st2 (by simp only [argBest, hbt, Bool.false_eq_true, if_false]; exact pb) hb2 hL2 fun v' g' tk' pv' kp' => ?_⟩
      exact fin v' g' tk' pv' fun b o hbw hbL e => kp' b o hbw hbL (kp b o hbw e)
theorem first (W : Walks prog w A.in1 I fp wr n P St) {base : Heap} {bt : Nat → Nat → Bool} (cmp : CmpSt prog w A.in1 base P bt) {L : Addr} (nf : L ∉ fp) (old : ∀ c o, base.get? c = some o → c ∉ wr ∧ c ≠ L) (pos : 0 < n) {z : Shared} {c : Nat} (st : St 0 z.heap) (hb : ∀ c o, base.get? c = some o → z.heap.get? c = some o)
    (hL : z.heap.get? L = some { cls := .type "list", dict := none, data := .seq #[] c, slots := #[] })
    (fin : ∀ v g tk, P (argBest bt (n - 1)) v → (∀ b o, b ∉ wr → b ≠ L → z.heap.get? b = some o → g.get? b = some o) → R (.ok (.ret v)) { z with heap := g, toks := tk }) :
    codeAny (model prog w) A (.builtin "min.loop" ⟨[.ref I, .none, .ref L], []⟩) R z := by
  have nw : L ∉ wr := fun h => nf (W.sub _ h)
  have nm : (toString "min" ++ toString ".loop" : String) = "min.loop" := by decide
  refine codeAny_builtin F.entry_min_loop ?_; rw [Around.under_plainId F.plain_min_loop _]
  show wpAny _ A.in1 (seqItems? (.ref L) >>= _) _ _ z
  refine wpAny_bind (wpAny_seqItems hL rfl ?_); show wpAny _ A.in1 (tryCatch (pyNext (.ref I)) _ >>= _) _ _ z
  refine wpAny_bind (wpAny_tryCatch (W.item 0 z _ _ pos st fun v g tk pv st2 kp => ?_))
  have hL2 := kp L _ nw hL
  have hb2 : ∀ c o, base.get? c = some o → g.get? c = some o := fun c o e => kp c o (old c o e).1 (hb c o e)
  show wpAny _ A.in1 (updateSeq L (fun _ => #[v, v]) >>= _) _ _ _
  refine wpAny_bind ?_
  refine wpAny_updateSeq hL2 rfl ?_
  rw [nm]
  refine wpAny_pure ⟨plainId_quiet F.plain_min_loop _, more W cmp nf old _ 0 _ v _ rfl pos (W.frame _ _ _ st2 fun b hbf o e => ?_) pv (fun c o e => ?_) (Heap.get?_update_self _ hL2 rfl) fun v' g' tk' pv' kp' => ?_⟩
  · exact (Heap.get?_update_other _ _ (fun h : L = b => nf (by rw [h]; exact hbf))).trans e
  · exact (Heap.get?_update_other _ _ (Ne.symm (old c o e).2)).trans (hb2 c o e)
  · exact fin v' g' tk' pv' fun b o hbw hbL e => kp' b o hbw hbL ((Heap.get?_update_other _ _ (Ne.symm hbL)).trans (kp b o hbw e))
end
section
variable {prog : Program} {w : World} {A : Around} {E : Value → Shared → Prop} {s : Shared}
end
end RsM
namespace Rs
open PySem PySem.Spec PyProof.Rows L2
def cutD (c : Int × List Int) : PyData := .tuple [.int c.1, .list (c.2.map PyData.int)]
section
variable {X : Cx}
end
end Rs

namespace Rs
open PySem PySem.Spec PyProof.Rows L2
section
variable {α β : Type} {R : Rel α} {S : Rel β} {H1 H' H4 : Hp} {D : Addr} {dn : List β} {y : V} {b : β}
def PvL (S : Rel β) (H1 : Hp) (D : Addr) (dn : List β) (H' : Hp) : Prop := Lst S H' D dn ∧ Same H1 H'
theorem lcStart (hD : H1 D = none) : PvL S H1 D [] (upd H1 D (.lst [])) := ⟨⟨[], upd_same, .nil⟩, Rs.Same.new hD⟩
theorem lcPut (st : Stable S) (hD : H1 D = none) (P : PvL S H1 D dn H') (s : Same H' H4) (hy : S H4 y b) (hl : dn.length < 100000) : ∃ acc, H4 D = some (.lst acc) ∧ acc.length < sizeLine ∧ PvL S H1 D (dn ++ [b]) (upd H4 D (.lst (acc ++ [y]))) := by
  obtain ⟨⟨vs, e, p⟩, s1⟩ := P
  have l := p.length
  have e4 := s _ _ e
  have t : TupLe H4 (upd H4 D (.lst (vs ++ [y]))) := (TupLe.refl H4).list e4
  exact ⟨vs, e4, szlt (by omega), ⟨_, upd_same, P2.app (Paired.tl st ((TupLe.same s).trans t) p) (P2.one (st _ _ _ _ t hy))⟩, Rs.Same.mut (s1.trans s) hD⟩
theorem lcSkip (st : Stable S) (P : PvL S H1 D dn H') (s : Same H' H4) : PvL S H1 D dn H4 := ⟨P.1.same st s, P.2.trans s⟩
theorem take_fm {f : α → Option β} {xs : List α} {j : Nat} {x : α} (h : xs[j]? = some x) : (xs.take (j + 1)).filterMap f = (xs.take j).filterMap f ++ (f x).toList := by
  rw [List.take_succ, h, List.filterMap_append]
  cases hf : f x <;> simp [List.filterMap_cons, hf]
theorem lcm_list {K : PySem.W.Frag} {a : Addr} {vs : List V} {xs : List α} {g : TG} {tt : TT} {te : TE} {ws : List Nat} {σ : L2.St} {Qd : Hp → Prop} (f : α → Option β) (st : Stable S) (ha : H1 a = some (.lst vs)) (p : Paired (R H1) vs xs) (hD : H1 D = none)
    (turn : ∀ (j : Nat) (v : V) (x : α) (H' : Hp), xs[j]? = some x → vs[j]? = some v → R H1 v x → Same H1 H' → (∀ H4, Same H' H4 → f x = none → PvL S H1 D ((xs.take (j + 1)).filterMap f) H4) → (∀ H4 y b, Same H' H4 → f x = some b → S H4 y b → ∃ acc, H4 D = some (.lst acc) ∧ acc.length < sizeLine ∧ PvL S H1 D ((xs.take (j + 1)).filterMap f) (upd H4 D (.lst (acc ++ [y])))) →
      g v (wipe σ ws) H' fun σ2 H2 => wipe σ2 ws = wipe σ ws ∧ tt σ2 H2 fun b H3 => if b = true then te σ2 H3 fun y H4 => ∃ acc, H4 D = some (.lst acc) ∧ acc.length < sizeLine ∧ PvL S H1 D ((xs.take (j + 1)).filterMap f) (upd H4 D (.lst (acc ++ [y]))) else PvL S H1 D ((xs.take (j + 1)).filterMap f) H3)
    (hl : xs.length < 100000) (done : ∀ H', Lst S H' D (xs.filterMap f) → Same H1 H' → Qd H') :
    ∃ W : Nat → Nat → Hp → Prop, (∃ m, W 0 m (upd H1 D (.lst []))) ∧ ∀ i m H, W i m H →
      ((Itl K a).stop i H ∧ Qd H) ∨ ((Itl K a).go i H ∧ ∃ Nx : Hp → Prop, (∀ H', Nx H' → ∃ m', m' < m ∧ W (i + 1) m' H') ∧ ∀ x H', (Itl K a).yld i H x H' → g x (wipe σ ws) H' fun σ2 H2 => wipe σ2 ws = wipe σ ws ∧ tt σ2 H2 fun b H3 =>
        if b = true then te σ2 H3 fun y H4 => ∃ acc, H4 D = some (.lst acc) ∧ acc.length < sizeLine ∧ Nx (upd H4 D (.lst (acc ++ [y]))) else Nx H3) := by
  have lp := p.length
  refine lc_list (K := K) (a := a) (xs := vs) (fun j H' => PvL S H1 D ((xs.take j).filterMap f) H') (lcStart hD) ?_ ?_ ?_
  · rintro j H' _ ⟨_, s⟩
    exact SqL.of (s _ _ ha)
  · rintro j v H' hj P
    obtain ⟨x, hx, r⟩ := P2.get p hj
    have hb : ((xs.take j).filterMap f).length < 100000 := by
      have := List.length_filterMap_le f (xs.take j)
      rw [List.length_take] at this
      omega
    refine turn j v x H' hx hj r P.2 (fun H4 s hf => ?_) (fun H4 y b s hf hy => ?_)
    · rw [take_fm hx, hf, Option.toList_none, List.append_nil]
      exact lcSkip st P s
    · rw [take_fm hx, hf]
      exact lcPut st hD P s hy hb
  · rintro H' ⟨L, s⟩
    rw [List.take_of_length_le (by omega)] at L
    exact done H' L s
end
theorem ints_paired {H : Hp} : ∀ ns : List Int, Paired (IntAt H) (ns.map V.int) ns
  | [] => .nil
  | n :: ns => .cons rfl (ints_paired ns)
theorem paired_ints {H : Hp} : ∀ {vs : List V} {ns : List Int}, Paired (IntAt H) vs ns → vs = ns.map V.int
  | _, _, .nil => rfl
  | _, _, .cons h t => by rw [List.map_cons, ← paired_ints t]; congr 1
theorem Lst.ints {H : Hp} {l : Addr} {ns : List Int} : Lst IntAt H l ns ↔ H l = some (.lst (ns.map V.int)) := ⟨fun ⟨vs, e, p⟩ => by rw [← paired_ints p]; exact e, fun e => ⟨_, e, ints_paired ns⟩⟩
def IIAt : Rel (Int × Int) := fun H v p => IsTp H v [.int p.1, .int p.2]
theorem IIAt.st : Stable IIAt := fun _ _ _ _ t h => IsTp.mono t h
theorem fm_some {α β : Type} {f : α → β} : ∀ {xs : List α}, xs.filterMap (fun x => some (f x)) = xs.map f
  | [] => rfl
  | x :: xs => by rw [List.filterMap_cons, List.map_cons, fm_some]
theorem fm_if {α β : Type} {p : α → Bool} {f : α → β} : ∀ {xs : List α}, xs.filterMap (fun x => if p x = true then some (f x) else none) = (xs.filter p).map f
  | [] => rfl
  | x :: xs => by
    rw [List.filterMap_cons, List.filter_cons]
    cases p x
    · simpa using fm_if
    · simp only [if_true, List.map_cons]
      rw [fm_if]
inductive Pl where
  | leaf (n : Int)
  | node (ps : List Pl)
instance : Inhabited Pl := ⟨.leaf 0⟩
mutual
def Pl.runs : Pl → List Int
  | .leaf n => [n]
  | .node ps => Pl.runsL ps
def Pl.runsL : List Pl → List Int
  | [] => []
  | p :: ps => p.runs ++ Pl.runsL ps
end
mutual
def Pl.fits (w : Nat) : Pl → Bool
  | .leaf _ => true
  | .node ps => (decide (2 ≤ ps.length) && decide (ps.length ≤ w)) && Pl.fitsL w ps
def Pl.fitsL (w : Nat) : List Pl → Bool
  | [] => true
  | p :: ps => p.fits w && Pl.fitsL w ps
end
mutual
def Pl.depth : Pl → Nat
  | .leaf _ => 0
  | .node ps => Pl.depthL ps + 1
def Pl.depthL : List Pl → Nat
  | [] => 0
  | p :: ps => max p.depth (Pl.depthL ps)
end
mutual
inductive PlAt (H : Hp) : V → Pl → Prop
  | leaf (n : Int) : PlAt H (.int n) (.leaf n)
  | node {a : Addr} {vs : List V} {ps : List Pl} : H a = some (.tup vs) → PlAll H vs ps → PlAt H (.ref a) (.node ps)
inductive PlAll (H : Hp) : List V → List Pl → Prop
  | nil : PlAll H [] []
  | cons {v : V} {p : Pl} {vs : List V} {ps : List Pl} : PlAt H v p → PlAll H vs ps → PlAll H (v :: vs) (p :: ps)
end
mutual
theorem PlAt.mono {H H' : Hp} (t : TupLe H H') : ∀ (p : Pl) (v : V), PlAt H v p → PlAt H' v p
  | .leaf n, _, h => by
    cases h
    exact .leaf n
  | .node ps, _, h => by
    cases h with
    | node e a => exact .node (t _ _ e) (PlAll.mono t ps _ a)
theorem PlAll.mono {H H' : Hp} (t : TupLe H H') : ∀ (ps : List Pl) (vs : List V), PlAll H vs ps → PlAll H' vs ps
  | [], _, h => by
    cases h
    exact .nil
  | p :: ps, _, h => by
    cases h with
    | cons a b => exact .cons (PlAt.mono t p _ a) (PlAll.mono t ps _ b)
end
def PlR : Rel Pl := PlAt
theorem PlR.st : Stable PlR := fun _ _ v p t h => PlAt.mono t p v h
theorem PlAll.of {H : Hp} : ∀ {vs : List V} {ps : List Pl}, Paired (PlR H) vs ps → PlAll H vs ps
  | _, _, .nil => .nil
  | _, _, .cons a b => .cons a (PlAll.of b)
theorem PlAll.to {H : Hp} : ∀ {vs : List V} {ps : List Pl}, PlAll H vs ps → Paired (PlR H) vs ps
  | _, _, .nil => .nil
  | _, _, .cons a b => .cons a (PlAll.to b)
theorem PlR.node {H : Hp} {a : Addr} {vs : List V} {ps : List Pl} (e : H a = some (.tup vs)) (p : Paired (PlR H) vs ps) : PlR H (.ref a) (.node ps) := PlAt.node e (PlAll.of p)
theorem PlR.unnode {H : Hp} {v : V} {ps : List Pl} (h : PlR H v (.node ps)) : ∃ a vs, v = .ref a ∧ H a = some (.tup vs) ∧ Paired (PlR H) vs ps := by
  cases h with
  | node e a => exact ⟨_, _, rfl, e, PlAll.to a⟩
theorem PlR.unleaf {H : Hp} {v : V} {n : Int} (h : PlR H v (.leaf n)) : v = .int n := by
  cases h
  rfl
theorem Pl.runsL_map (ps : List Pl) : Pl.runsL ps = (ps.map Pl.runs).flatten := by
  induction ps with
  | nil => rfl
  | cons p ps ih => rw [Pl.runsL, ih, List.map_cons, List.flatten_cons]
theorem Pl.fitsL_all {w : Nat} (ps : List Pl) : Pl.fitsL w ps = ps.all fun p => p.fits w := by
  induction ps with
  | nil => rfl
  | cons p ps ih => rw [Pl.fitsL, ih, List.all_cons]
theorem Pl.depthL_le {ps : List Pl} {p : Pl} (h : p ∈ ps) : p.depth ≤ Pl.depthL ps := by
  induction ps with
  | nil => simp at h
  | cons q ps ih =>
    rw [Pl.depthL]
    rcases List.mem_cons.mp h with e | e
    · rw [e]; omega
    · have := ih e; omega
mutual
theorem Pl.deep {w : Nat} : ∀ (p : Pl), p.fits w = true → p.depth + 1 ≤ p.runs.length
  | .leaf n, _ => by simp [Pl.depth, Pl.runs]
  | .node ps, h => by
    rw [Pl.fits] at h
    simp only [Bool.and_eq_true, decide_eq_true_eq] at h
    have := Pl.deepL ps h.2
    rw [Pl.depth, Pl.runs]
    omega
theorem Pl.deepL {w : Nat} : ∀ (ps : List Pl), Pl.fitsL w ps = true → Pl.depthL ps + ps.length ≤ (Pl.runsL ps).length
  | [], _ => by simp [Pl.depthL, Pl.runsL]
  | p :: ps, h => by
    rw [Pl.fitsL] at h
    simp only [Bool.and_eq_true] at h
    have a := Pl.deep p h.1
    have b := Pl.deepL ps h.2
    rw [Pl.depthL, Pl.runsL, List.length_append, List.length_cons]
    omega
end
def insL (x : Int × Int) : List (Int × Int) → List (Int × Int)
  | [] => [x]
  | y :: ys => if SrtO.lexB x y = true then x :: y :: ys else y :: insL x ys
def srtL : List (Int × Int) → List (Int × Int)
  | [] => []
  | x :: xs => insL x (srtL xs)
def hm (left w : Nat) : Nat := 2 + (left - 2) % (w - 1)
def leastN (rows : List (Int × Int)) (w : Nat) : List Int := ((srtL rows).take (hm rows.length w)).map (·.2)
end Rs

namespace Rs
open PySem PySem.Spec PyProof.Rows L2
structure GoodLens (ls : List Int) : Prop where
  pos : 1 ≤ ls.length
  le : ls.length ≤ 40
  all : ∀ x ∈ ls, 1 ≤ x ∧ x ≤ 1000000
end Rs

namespace Rs
open PySem PySem.Spec PyProof.Rows L2
def lookP (plans : List (Int × Pl)) (n : Int) : Pl := ((plans.find? fun q => decide (q.1 = n)).map (·.2)).getD (.leaf 0)
def cSize (w : Nat) (rows : List (Int × Int)) : Int := ((rows.filter fun r => decide (r.2 ∈ leastN rows w)).map (·.1)).sum
def cRows (n w : Nat) (rows : List (Int × Int)) (plans : List (Int × Pl)) : List (Int × Int) := (rows.filter fun r => decide (r.2 ∉ leastN rows w)) ++ [(cSize w rows, (n : Int) + plans.length)]
def cPlans (n w : Nat) (rows : List (Int × Int)) (plans : List (Int × Pl)) : List (Int × Pl) := plans ++ [((n : Int) + plans.length, .node ((leastN rows w).map (lookP plans)))]
def rows0 (ls : List Int) : List (Int × Int) := (List.range ls.length).map fun (i : Nat) => (ls.getD i 0, (i : Int))
def plans0 (n : Nat) : List (Int × Pl) := (List.range n).map fun (i : Nat) => ((i : Int), Pl.leaf (i : Int))
structure CInv (n : Nat) (rows : List (Int × Int)) (plans : List (Int × Pl)) : Prop where
  names : ∀ r ∈ rows, ∃ q ∈ plans, q.1 = r.2
  lt : ∀ q ∈ plans, q.1 < (n : Int) + plans.length
  nd : (rows.map (·.2)).Nodup
theorem CInv.step {n w : Nat} {rows : List (Int × Int)} {plans : List (Int × Pl)} (I : CInv n rows plans) : CInv n (cRows n w rows plans) (cPlans n w rows plans) := by
  refine ⟨fun r hr => ?_, fun q hq => ?_, ?_⟩
  · unfold cRows at hr
    rcases List.mem_append.mp hr with z | z
    · obtain ⟨q, hq, e⟩ := I.names r (List.mem_filter.mp z).1
      exact ⟨q, List.mem_append_left _ hq, e⟩
    · rw [List.mem_singleton] at z
      exact ⟨_, List.mem_append_right _ (List.mem_singleton.mpr rfl), by rw [z]⟩
  · unfold cPlans at hq ⊢
    rw [List.length_append, List.length_singleton]
    rcases List.mem_append.mp hq with z | z
    · have := I.lt q z
      omega
    · rw [List.mem_singleton] at z
      rw [z]
      show (n : Int) + plans.length < _
      omega
  · unfold cRows
    rw [List.map_append]
    refine List.nodup_append.mpr ⟨I.nd.sublist ((List.filter_sublist).map _), by simp, fun x hx y hy e => ?_⟩
    obtain ⟨r, hr, rfl⟩ := List.mem_map.mp hx
    obtain ⟨q, hq, e2⟩ := I.names r (List.mem_filter.mp hr).1
    have := I.lt q hq
    have ey : y = (n : Int) + plans.length := by simpa using hy
    omega
def PKv (H : Hp) : List (Key × V) → List (Int × Pl) → Prop := Paired fun kv q => kv.1 = Sum.inl q.1 ∧ PlR H kv.2 q.2
theorem PKv.mono {H H' : Hp} (t : TupLe H H') {kvs : List (Key × V)} {plans : List (Int × Pl)} (h : PKv H kvs plans) : PKv H' kvs plans := P2.mono (fun _ _ ⟨a, b⟩ => ⟨a, PlR.st _ _ _ _ t b⟩) h
end Rs

namespace Rs
open PySem PySem.Spec PyProof.Rows L2
def cutSum (c : Int → Int → Int) : Int → List Int → Int
  | _, [] => 0
  | b, p :: ps => c b p + cutSum c p ps
def Asc : Int → List Int → Int → Prop
  | b, [], t => b = t
  | b, p :: ps, t => b < p ∧ Asc p ps t
theorem asc_le : ∀ {ps : List Int} {b t : Int}, Asc b ps t → b + ps.length ≤ t
  | [], b, t, h => by simp [Asc] at h; simp; omega
  | p :: ps, b, t, h => by
    have := asc_le h.2
    have := h.1
    rw [List.length_cons]
    omega
theorem asc_last : ∀ {qs : List Int} {b t : Int}, Asc b qs t → qs ≠ [] → ∃ ps h, qs = ps ++ [t] ∧ Asc b ps h ∧ h < t
  | [], b, t, _, n => absurd rfl n
  | [p], b, t, a, _ => by
    obtain ⟨a1, a2⟩ := a
    have a2 : p = t := a2
    exact ⟨[], b, by rw [a2]; rfl, rfl, by omega⟩
  | p :: q :: qs, b, t, a, _ => by
    obtain ⟨ps, h, e, a', l⟩ := asc_last (qs := q :: qs) a.2 (by simp)
    exact ⟨p :: ps, h, by rw [e]; rfl, ⟨a.1, a'⟩, l⟩
theorem cut_snoc {c : Int → Int → Int} : ∀ {ps : List Int} {b h t : Int}, Asc b ps h → cutSum c b (ps ++ [t]) = cutSum c b ps + c h t
  | [], b, h, t, a => by
    have a : b = h := a
    subst a
    simp [cutSum]
  | p :: ps, b, h, t, a => by
    show c b p + cutSum c p (ps ++ [t]) = c b p + cutSum c p ps + c h t
    rw [cut_snoc a.2]
    omega
structure BestCut (c : Int → Int → Int) (b e : Int) (w : Nat) (s : Int) (ps : List Int) : Prop where
  asc : Asc b ps e
  two : 2 ≤ ps.length
  le : ps.length ≤ w
  sum : s = cutSum c b ps
  min : ∀ qs, Asc b qs e → 2 ≤ qs.length → qs.length ≤ w → s ≤ cutSum c b qs
def TL (H H' : Hp) : Prop := (∀ a xs, H a = some (.tup xs) → H' a = some (.tup xs)) ∧ ∀ a xs, H a = some (.lst xs) → H' a = some (.lst xs)
theorem TL.refl (H : Hp) : TL H H := ⟨fun _ _ h => h, fun _ _ h => h⟩
theorem TL.trans {H H1 H2 : Hp} (a : TL H H1) (b : TL H1 H2) : TL H H2 := ⟨fun c xs h => b.1 c xs (a.1 c xs h), fun c xs h => b.2 c xs (a.2 c xs h)⟩
theorem TL.same {H H' : Hp} (s : Same H H') : TL H H' := ⟨fun c xs h => s c _ h, fun c xs h => s c _ h⟩
theorem TL.put {H : Hp} {a : Addr} {o u : HO} (h : H a = some u) (h1 : ∀ xs, u ≠ .tup xs) (h2 : ∀ xs, u ≠ .lst xs) : TL H (upd H a o) :=
  ⟨fun c xs e => by rw [upd_ne (fun z => by rw [z, h] at e; exact h1 xs (Option.some.inj e))]; exact e, fun c xs e => by rw [upd_ne (fun z => by rw [z, h] at e; exact h2 xs (Option.some.inj e))]; exact e⟩
theorem TL.dk {H : Hp} {a : Addr} {o : HO} {kvs : List (Key × V)} (h : H a = some (.dK kvs)) : TL H (upd H a o) := TL.put h (fun _ z => by cases z) (fun _ z => by cases z)
abbrev Cut := Int × List Int
def CutAt (H : Hp) (v : V) (q : Cut) : Prop := ∃ a l, v = .ref a ∧ H a = some (.tup [.int q.1, .ref l]) ∧ H l = some (.lst (q.2.map V.int))
theorem CutAt.tl {H H' : Hp} {v : V} {q : Cut} (t : TL H H') (h : CutAt H v q) : CutAt H' v q := let ⟨a, l, e, h1, h2⟩ := h; ⟨a, l, e, t.1 _ _ h1, t.2 _ _ h2⟩
theorem map_int_inj : ∀ {a b : List Int}, a.map V.int = b.map V.int → a = b
  | [], [], _ => rfl
  | [], _ :: _, h => by simp at h
  | _ :: _, [], h => by simp at h
  | x :: a, y :: b, h => by
    rw [List.map_cons, List.map_cons] at h
    injection h with h1 h2
    injection h1 with h1
    rw [h1, map_int_inj h2]
theorem CutAt.uniq {H : Hp} {v : V} {q r : Cut} (h : CutAt H v q) (k : CutAt H v r) : q = r := by
  obtain ⟨a, l, rfl, h1, h2⟩ := h
  obtain ⟨a', l', e, k1, k2⟩ := k
  injection e with e
  subst e
  rw [h1] at k1
  injection k1 with k1
  injection k1 with k1
  injection k1 with k1 k3
  injection k1 with k1
  injection k3 with k3
  injection k3 with k3
  subst k3
  rw [h2] at k2
  injection k2 with k2
  injection k2 with k2
  exact Prod.ext k1 (map_int_inj k2)
theorem CutAt.dp {K : PySem.W.Frag} {H : Hp} {v : V} {q : Cut} (h : CutAt H v q) : Dp K H v (cutD q) := by
  obtain ⟨a, l, rfl, h1, h2⟩ := h
  have hints : ∀ ns : List Int, DpAll K H (ns.map V.int) (ns.map PyData.int) := fun ns => by
    induction ns with
    | nil => exact .nil
    | cons x xs ih => exact .cons (.int x) ih
  exact .tup (SqT.of h1) (.cons (.int _) (.cons (.lst (SqL.of h2) (hints _)) .nil))
theorem putK_keys {kvs : List (Key × V)} {k : Key} {v : V} : ((putK kvs k v).map (·.1)) = if (valV kvs k).isSome then kvs.map (·.1) else kvs.map (·.1) ++ [k] := by
  unfold putK
  rw [valV_any]
  cases (valV kvs k).isSome
  · simp
  · simp only [if_true, List.map_map]
    congr 1
    funext kv
    show (if kv.1 = k then (kv.1, v) else kv).1 = kv.1
    split <;> rfl
theorem valV_of_mem {kvs : List (Key × V)} {k : Key} {v : V} (h : (k, v) ∈ kvs) : ∃ u, valV kvs k = some u := by
  cases e : valV kvs k with
  | some u => exact ⟨u, rfl⟩
  | none =>
    exfalso
    unfold valV at e
    rw [Option.map_eq_none_iff, List.find?_eq_none] at e
    have := e _ h
    simp at this
theorem keys_none {kvs : List (Key × V)} {k : Key} (h : valV kvs k = none) : k ∉ kvs.map (·.1) := fun hm => by
  obtain ⟨kv, hkv, e⟩ := List.mem_map.mp hm
  obtain ⟨u, hu⟩ := valV_of_mem (kvs := kvs) (k := k) (v := kv.2) (by rw [← e]; exact hkv)
  rw [h] at hu
  cases hu
theorem putK_nd {kvs : List (Key × V)} {k : Key} {v : V} (nd : (kvs.map (·.1)).Nodup) : ((putK kvs k v).map (·.1)).Nodup := by
  rw [putK_keys]
  cases e : valV kvs k with
  | some u => exact nd
  | none =>
    simp only [Option.isSome_none, Bool.false_eq_true, if_false]
    refine List.nodup_append.mpr ⟨nd, by simp, fun a ha b hb z => ?_⟩
    have hb : b = k := by simpa using hb
    rw [z, hb] at ha
    exact keys_none e ha
theorem keys_few {kvs : List (Key × V)} {b : Int} {n : Nat} (nd : (kvs.map (·.1)).Nodup) (h : ∀ k ∈ kvs.map (·.1), ∃ t : Int, k = Sum.inl t ∧ b ≤ t ∧ t ≤ b + n) : kvs.length ≤ n + 1 := by
  have sub : (kvs.map (·.1)) ⊆ (List.range (n + 1)).map fun (i : Nat) => (Sum.inl (b + (i : Int)) : Key) := fun k hk => by
    obtain ⟨t, e, h1, h2⟩ := h k hk
    refine List.mem_map.mpr ⟨(t - b).toNat, List.mem_range.mpr (by omega), ?_⟩
    rw [e]
    congr 1
    omega
  have := nd.length_le_of_subset sub
  simpa using this
theorem valV_drop {kvs : List (Key × V)} {k j : Key} : valV (dropK kvs k) j = if j = k then none else valV kvs j := by
  unfold valV dropK
  induction kvs with
  | nil => simp
  | cons kv kvs ih =>
    rw [List.filter_cons]
    by_cases e : kv.1 = k
    · rw [if_neg (by simp [e]), ih]
      by_cases ej : j = k
      · rw [if_pos ej, if_pos ej]
      · rw [if_neg ej, if_neg ej, List.find?_cons, decide_eq_false (by rw [e]; exact fun z => ej z.symm)]
    · rw [if_pos (by simp [e]), List.find?_cons]
      by_cases ej : kv.1 = j
      · rw [decide_eq_true ej, if_neg (by rw [← ej]; exact e), List.find?_cons, decide_eq_true ej]
      · rw [decide_eq_false ej, ih]
        by_cases ek : j = k
        · rw [if_pos ek, if_pos ek]
        · rw [if_neg ek, if_neg ek, List.find?_cons, decide_eq_false ej]
abbrev Costs := List ((Int × Int) × Int)
def kk (b e : Int) : List Key := [Sum.inl b, Sum.inl e]
def cLook (cl : Costs) (b e : Int) : Option Int := (cl.find? fun q => decide (q.1 = (b, e))).map (·.2)
def cOf (cl : Costs) (b e : Int) : Int := (cLook cl b e).getD 0
end Rs

namespace Rs
open PySem PySem.Spec PyProof.Rows L2
def Sound (c : Int → Int → Int) (b e : Int) (j : Nat) (t s : Int) (ps : List Int) : Prop := Asc b ps t ∧ ps.length = j ∧ s = cutSum c b ps ∧ t ≤ e ∧ (j = 1 → t < e)
structure BestV (c : Int → Int → Int) (b e : Int) (j : Nat) (H : Hp) (kvs : List (Key × V)) : Prop where
  nd : (kvs.map (·.1)).Nodup
  snd : ∀ k v, valV kvs k = some v → ∃ t s ps, k = Sum.inl t ∧ CutAt H v (s, ps) ∧ Sound c b e j t s ps
  cmp : ∀ qs t, Asc b qs t → qs.length = j → t < e → ∃ v s ps, valV kvs (Sum.inl t) = some v ∧ CutAt H v (s, ps) ∧ s ≤ cutSum c b qs
structure LateV (c : Int → Int → Int) (b e : Int) (j : Nat) (Pr : Int → Int → Prop) (H : Hp) (bk lk : List (Key × V)) : Prop where
  nd : (lk.map (·.1)).Nodup
  snd : ∀ k v, valV lk k = some v → ∃ t s ps, k = Sum.inl t ∧ CutAt H v (s, ps) ∧ Sound c b e (j + 1) t s ps
  cmp : ∀ h vh sh ph, valV bk (Sum.inl h) = some vh → CutAt H vh (sh, ph) → ∀ t, Pr h t → h < t → t ≤ e → t - h < e - b → ∃ v s ps, valV lk (Sum.inl t) = some v ∧ CutAt H v (s, ps) ∧ s ≤ sh + c h t
section
variable {c : Int → Int → Int} {b e : Int} {j : Nat} {H H' : Hp} {bk lk : List (Key × V)} {Pr Pr' : Int → Int → Prop}
theorem BestV.tl (B : BestV c b e j H bk) (t : TL H H') : BestV c b e j H' bk :=
  ⟨B.nd, fun k v h => let ⟨a, s, ps, x, y, z⟩ := B.snd k v h; ⟨a, s, ps, x, y.tl t, z⟩, fun qs a x y z => let ⟨v, s, ps, p, q, r⟩ := B.cmp qs a x y z; ⟨v, s, ps, p, q.tl t, r⟩⟩
theorem BestV.few (B : BestV c b e j H bk) (n : Nat) (h : e ≤ b + n) : bk.length ≤ n + 1 := keys_few (b := b) B.nd fun k hk => by
  obtain ⟨kv, hkv, rfl⟩ := List.mem_map.mp hk
  obtain ⟨u, hu⟩ := valV_of_mem (kvs := bk) (k := kv.1) (v := kv.2) hkv
  obtain ⟨t, s, ps, x, _, a, _, _, le, _⟩ := B.snd _ _ hu
  have := asc_le a
  exact ⟨t, x, by omega, by omega⟩
theorem LateV.few (L : LateV c b e j Pr H bk lk) (n : Nat) (h : e ≤ b + n) : lk.length ≤ n + 1 := keys_few (b := b) L.nd fun k hk => by
  obtain ⟨kv, hkv, rfl⟩ := List.mem_map.mp hk
  obtain ⟨u, hu⟩ := valV_of_mem (kvs := lk) (k := kv.1) (v := kv.2) hkv
  obtain ⟨t, s, ps, x, _, a, _, _, le, _⟩ := L.snd _ _ hu
  have := asc_le a
  exact ⟨t, x, by omega, by omega⟩
theorem LateV.tl (L : LateV c b e j Pr H bk lk) (B : BestV c b e j H bk) (t : TL H H') : LateV c b e j Pr H' bk lk :=
  ⟨L.nd, fun k v h => let ⟨a, s, ps, x, y, z⟩ := L.snd k v h; ⟨a, s, ps, x, y.tl t, z⟩, fun h vh sh ph h1 h2 a p q r z => by
    obtain ⟨t0, s0, ps0, x, y, _⟩ := B.snd _ _ h1
    have u := CutAt.uniq (y.tl t) h2
    rw [u] at y
    obtain ⟨v, s, ps, p1, p2, p3⟩ := L.cmp h vh sh ph h1 y a p q r z
    exact ⟨v, s, ps, p1, p2.tl t, p3⟩⟩
theorem LateV.imp (L : LateV c b e j Pr H bk lk) (i : ∀ h t, (valV bk (Sum.inl h)).isSome = true → Pr' h t → h < t → t ≤ e → t - h < e - b → Pr h t) : LateV c b e j Pr' H bk lk :=
  ⟨L.nd, L.snd, fun h vh sh ph h1 h2 a p q r z => L.cmp h vh sh ph h1 h2 a (i h a (by rw [h1]; rfl) p q r z) q r z⟩
theorem LateV.put (L : LateV c b e j Pr H bk lk) {h t s : Int} {vh v : V} {sh : Int} {ph ps : List Int} (hb : valV bk (Sum.inl h) = some vh) (hc : CutAt H vh (sh, ph)) (hv : CutAt H v (s, ps)) (sd : Sound c b e (j + 1) t s ps) (le : s ≤ sh + c h t)
    (old : ∀ u r, valV lk (Sum.inl t) = some u → CutAt H u r → s ≤ r.1) : LateV c b e j (fun h' t' => Pr h' t' ∨ (h' = h ∧ t' = t)) H bk (putK lk (Sum.inl t) v) := by
  refine ⟨putK_nd L.nd, fun k u hk => ?_, fun h' vh' sh' ph' h1 h2 t' p q r z => ?_⟩
  · rw [valV_put] at hk
    split at hk
    · rename_i ek
      cases hk
      exact ⟨t, s, ps, ek, hv, sd⟩
    · exact L.snd k u hk
  · rw [valV_put]
    rcases p with p | ⟨rfl, rfl⟩
    · obtain ⟨u, s', ps', p1, p2, p3⟩ := L.cmp h' vh' sh' ph' h1 h2 t' p q r z
      by_cases et : t' = t
      · subst et
        rw [if_pos rfl]
        have := old u _ p1 p2
        exact ⟨v, s, ps, rfl, hv, by show s ≤ _; have : s ≤ s' := this; omega⟩
      · rw [if_neg (fun x => et (by injection x))]
        exact ⟨u, s', ps', p1, p2, p3⟩
    · rw [if_pos rfl]
      rw [hb] at h1
      cases h1
      have u := CutAt.uniq hc h2
      injection u with u1 u2
      exact ⟨v, s, ps, rfl, hv, by rw [← u1]; exact le⟩
theorem LateV.best (L : LateV c b e j (fun _ _ => True) H bk lk) (B : BestV c b e j H bk) : BestV c b e (j + 1) H lk := by
  refine ⟨L.nd, L.snd, fun qs t a l lt => ?_⟩
  obtain ⟨ps, h, eq, a', hl⟩ := asc_last a (by intro z; rw [z] at l; simp at l)
  have lp : ps.length = j := by rw [eq] at l; simpa using l
  obtain ⟨vh, sh, ph, h1, h2, h3⟩ := B.cmp ps h a' lp (by omega)
  have := asc_le a'
  obtain ⟨v, s, ps', p1, p2, p3⟩ := L.cmp h vh sh ph h1 h2 t trivial hl (by omega) (by omega)
  refine ⟨v, s, ps', p1, p2, ?_⟩
  rw [eq, cut_snoc a']
  omega
theorem LateV.last (L : LateV c b e j (fun _ _ => True) H bk lk) (B : BestV c b e j H bk) {qs : List Int} (a : Asc b qs e) (l : qs.length = j + 1) (h2j : 1 ≤ j) : ∃ v s ps, valV lk (Sum.inl e) = some v ∧ CutAt H v (s, ps) ∧ s ≤ cutSum c b qs := by
  obtain ⟨ps, h, eq, a', hl⟩ := asc_last a (by intro z; rw [z] at l; simp at l)
  have lp : ps.length = j := by rw [eq] at l; simpa using l
  obtain ⟨vh, sh, ph, h1, h2, h3⟩ := B.cmp ps h a' lp hl
  have := asc_le a'
  obtain ⟨v, s, ps', p1, p2, p3⟩ := L.cmp h vh sh ph h1 h2 e trivial hl (by omega) (by omega)
  refine ⟨v, s, ps', p1, p2, ?_⟩
  rw [eq, cut_snoc a']
  omega
theorem BestV.drop (B : BestV c b e j H bk) : BestV c b e j H (dropK bk (Sum.inl e)) := by
  refine ⟨?_, fun k v h => ?_, fun qs t x y z => ?_⟩
  · exact B.nd.sublist ((List.filter_sublist).map _)
  · rw [valV_drop] at h
    split at h
    · cases h
    · exact B.snd k v h
  · obtain ⟨v, s, ps, p, q, r⟩ := B.cmp qs t x y z
    refine ⟨v, s, ps, ?_, q, r⟩
    rw [valV_drop, if_neg (fun w => by injection w with w; omega)]
    exact p
end
theorem Rd.same {H H' : Hp} {a : Addr} {u : HO} (s : Same H H') (r : Rd H a u) : Rd H' a u := by
  rcases r with r | ⟨o, r⟩
  · exact .inl (s _ _ r)
  · exact .inr ⟨o, s _ _ r⟩
end Rs

namespace Rs
open PySem PySem.Spec PyProof.Rows L2
theorem cs_congr {c c' : Int → Int → Int} {b0 e : Int} (h : ∀ p q, b0 ≤ p → p < q → q ≤ e → ¬ (p = b0 ∧ q = e) → c p q = c' p q) : ∀ (ps : List Int) (b : Int), Asc b ps e → b0 ≤ b → (b0 < b ∨ 2 ≤ ps.length) → cutSum c b ps = cutSum c' b ps
  | [], b, _, _, _ => rfl
  | p :: ps, b, a, h0, h1 => by
    have l := asc_le a.2
    have ih := cs_congr h ps p a.2 (by have := a.1; omega) (.inl (by have := a.1; omega))
    show c b p + cutSum c p ps = c' b p + cutSum c' p ps
    rw [ih, h b p h0 a.1 (by omega) ?_]
    rintro ⟨e1, e2⟩
    rcases h1 with h1 | h1
    · omega
    · rw [List.length_cons] at h1
      omega
theorem BestCut.congr {c c' : Int → Int → Int} {b e : Int} {w : Nat} {s : Int} {ps : List Int} (B : BestCut c b e w s ps) (h : ∀ p q, b ≤ p → p < q → q ≤ e → ¬ (p = b ∧ q = e) → c p q = c' p q) : BestCut c' b e w s ps :=
  ⟨B.asc, B.two, B.le, by rw [B.sum]; exact cs_congr h ps b B.asc (Int.le_refl _) (.inr B.two), fun qs a h1 h2 => by rw [← cs_congr h qs b a (Int.le_refl _) (.inr h1)]; exact B.min qs a h1 h2⟩
def segL (ls : List Int) (b e : Int) : List Int := (ls.drop b.toNat).take (e.toNat - b.toNat)
structure NbOk (xs : List (Int × Int)) (ls : List Int) (w : Nat) (cl : Costs) (el : Int → Int → List Int) : Prop where
  keys : cl.map (·.1) = xs
  best : ∀ b e, (b, e) ∈ xs → ∃ s, BestCut (cOf cl) b e w s (el b e) ∧ cOf cl b e = s + (segL ls b e).sum
def EndsV (xs : List (Int × Int)) (H : Hp) (ek : List (List Key × V)) (el : Int → Int → List Int) : Prop := ∀ b e, (b, e) ∈ xs → ∃ l, valV ek (kk b e) = some (.ref l) ∧ H l = some (.lst ((el b e).map V.int))
theorem EndsV.tl {xs : List (Int × Int)} {H H' : Hp} {ek : List (List Key × V)} {el : Int → Int → List Int} (h : EndsV xs H ek el) (t : TL H H') : EndsV xs H' ek el := fun b e m => let ⟨l, a, c⟩ := h b e m; ⟨l, a, t.2 _ _ c⟩
def rng (b e : Int) : List Int := (List.range (e - b).toNat).map fun (i : Nat) => b + (i : Int)
end Rs

namespace Rs
open PySem PySem.Spec PyProof.Rows L2
end Rs

namespace Rs
open PySem PySem.Spec PyProof.Rows L2
def RunE (S : List Addr) : Rel (List Pr) := fun H v xs => ∃ l, v = .ref l ∧ l ∉ S ∧ Lst PairAt H l xs
theorem RunE.same {S : List Addr} {H H' : Hp} {v : V} {xs : List Pr} (h : RunE S H v xs) (s : Same H H') : RunE S H' v xs := let ⟨l, a, b, c⟩ := h; ⟨l, a, b, c.same PairAt.st s⟩
theorem RunE.put {S : List Addr} {D : Addr} {H : Hp} {v : V} {xs : List Pr} {ys zs : List V} (h : RunE S H v xs) (e : H D = some (.lst ys)) (m : D ∈ S) : RunE S (upd H D (.lst zs)) v xs := let ⟨l, a, b, c⟩ := h; ⟨l, a, b, c.keep PairAt.st ((TupLe.refl H).list e) fun o q => up q fun z => b (by rw [z]; exact m)⟩
theorem RunE.more {S : List Addr} {D : Addr} {H : Hp} {v : V} {xs : List Pr} (h : RunE S H v xs) (n : H D = none) : RunE (D :: S) H v xs := by
  obtain ⟨l, a, b, c⟩ := h
  refine ⟨l, a, fun z => ?_, c⟩
  obtain ⟨_, e, _⟩ := c
  rcases List.mem_cons.mp z with z | z
  · rw [z, n] at e
    cases e
  · exact b z
end Rs

namespace Rs
open PySem PySem.Spec PyProof.Rows L2
theorem CInv.start (ls : List Int) : CInv ls.length (rows0 ls) (plans0 ls.length) := by
  refine ⟨fun r hr => ?_, fun q hq => ?_, ?_⟩
  · obtain ⟨i, hi, rfl⟩ := List.mem_map.mp hr
    exact ⟨_, List.mem_map_of_mem (f := fun (i : Nat) => ((i : Int), Pl.leaf (i : Int))) hi, rfl⟩
  · obtain ⟨i, hi, rfl⟩ := List.mem_map.mp hq
    have := List.mem_range.mp hi
    unfold plans0
    rw [List.length_map, List.length_range]
    show (i : Int) < _
    omega
  · unfold rows0
    rw [List.map_map]
    exact nodup_cast (l := List.range ls.length) List.nodup_range
end Rs

namespace Rs
open PySem PySem.Spec PyProof.Rows L2
section
variable {α β : Type} {R : Rel α} {S : Rel β} {H1 H' H4 : Hp} {D : Addr} {dn : List β} {y : V} {b : β}
theorem lcm_tup {K : PySem.W.Frag} {a : Addr} {vs : List V} {xs : List α} {g : TG} {tt : TT} {te : TE} {ws : List Nat} {σ : L2.St} {Qd : Hp → Prop} (f : α → Option β) (st : Stable S) (ha : H1 a = some (.tup vs)) (p : Paired (R H1) vs xs) (hD : H1 D = none)
    (turn : ∀ (j : Nat) (v : V) (x : α) (H' : Hp), xs[j]? = some x → vs[j]? = some v → R H1 v x → Same H1 H' → (∀ H4, Same H' H4 → f x = none → PvL S H1 D ((xs.take (j + 1)).filterMap f) H4) → (∀ H4 y b, Same H' H4 → f x = some b → S H4 y b → ∃ acc, H4 D = some (.lst acc) ∧ acc.length < sizeLine ∧ PvL S H1 D ((xs.take (j + 1)).filterMap f) (upd H4 D (.lst (acc ++ [y])))) →
      g v (wipe σ ws) H' fun σ2 H2 => wipe σ2 ws = wipe σ ws ∧ tt σ2 H2 fun b H3 => if b = true then te σ2 H3 fun y H4 => ∃ acc, H4 D = some (.lst acc) ∧ acc.length < sizeLine ∧ PvL S H1 D ((xs.take (j + 1)).filterMap f) (upd H4 D (.lst (acc ++ [y]))) else PvL S H1 D ((xs.take (j + 1)).filterMap f) H3)
    (hl : xs.length < 100000) (done : ∀ H', Lst S H' D (xs.filterMap f) → Same H1 H' → Qd H') :
    ∃ W : Nat → Nat → Hp → Prop, (∃ m, W 0 m (upd H1 D (.lst []))) ∧ ∀ i m H, W i m H →
      ((Itt K a).stop i H ∧ Qd H) ∨ ((Itt K a).go i H ∧ ∃ Nx : Hp → Prop, (∀ H', Nx H' → ∃ m', m' < m ∧ W (i + 1) m' H') ∧ ∀ x H', (Itt K a).yld i H x H' → g x (wipe σ ws) H' fun σ2 H2 => wipe σ2 ws = wipe σ ws ∧ tt σ2 H2 fun b H3 =>
        if b = true then te σ2 H3 fun y H4 => ∃ acc, H4 D = some (.lst acc) ∧ acc.length < sizeLine ∧ Nx (upd H4 D (.lst (acc ++ [y]))) else Nx H3) := by
  have lp := p.length
  refine lc_tup (K := K) (a := a) (xs := vs) (fun j H' => PvL S H1 D ((xs.take j).filterMap f) H') (lcStart hD) ?_ ?_ ?_
  · rintro j H' _ ⟨_, s⟩
    exact SqT.of (s _ _ ha)
  · rintro j v H' hj P
    obtain ⟨x, hx, r⟩ := P2.get p hj
    have hb : ((xs.take j).filterMap f).length < 100000 := by
      have := List.length_filterMap_le f (xs.take j)
      rw [List.length_take] at this
      omega
    refine turn j v x H' hx hj r P.2 (fun H4 s hf => ?_) (fun H4 y b s hf hy => ?_)
    · rw [take_fm hx, hf, Option.toList_none, List.append_nil]
      exact lcSkip st P s
    · rw [take_fm hx, hf]
      exact lcPut st hD P s hy hb
  · rintro H' ⟨L, s⟩
    rw [List.take_of_length_le (by omega)] at L
    exact done H' L s
end
def StrAt : Rel Str := fun _ v x => v = .str x
theorem StrAt.st : Stable StrAt := fun _ _ _ _ _ h => h
open _root_.TL
def numS (n : Int) : Str := Str.ofString (toString n)
mutual
def Pl.words : Pl → List Str
  | .leaf n => [numS n]
  | .node ps => ("(" : Str) :: (Pl.wordsL ps ++ [(")" : Str)])
def Pl.wordsL : List Pl → List Str
  | [] => []
  | p :: ps => p.words ++ Pl.wordsL ps
end
mutual
def Pl.text : Pl → Str
  | .leaf n => numS n
  | .node ps => (("( " : Str) ++ Txt.join (" " : Str) (Pl.textL ps)) ++ (" )" : Str)
def Pl.textL : List Pl → List Str
  | [] => []
  | p :: ps => p.text :: Pl.textL ps
end
end Rs

namespace Rs
open PySem PySem.Spec PyProof.Rows L2
abbrev N_runs_in : List Str := ["plan", "found", "part"]
abbrev P_runs_in : List Str := ["plan"]
def spr_runs_in (K : PySem.W.Frag) (d : Nat) : Sp := fun vs H Q E => match vs with
  | [pv] => ∃ pl, PlR H pv pl ∧ pl.depth < d ∧ pl.runs.length ≤ 1000 ∧ ∀ l H', H l = none → H' l = some (.lst (pl.runs.map V.int)) → Same H H' → Q (.ref l) H'
  | _ => False
abbrev sp_runs_in (K : PySem.W.Frag) : Sp := spr_runs_in K 42
theorem no_runs_in (K : PySem.W.Frag) : ∀ vs H Q E, ¬ spr_runs_in K 0 vs H Q E := fun vs H Q E h => by
  unfold spr_runs_in at h
  match vs, h with
  | [_], ⟨_, _, h1, _⟩ => omega
theorem len_runs_in (K : PySem.W.Frag) : ∀ d vs H Q E, spr_runs_in K d vs H Q E → vs.length = 1 := fun d vs H Q E h => by
  unfold spr_runs_in at h
  match vs, h with
  | [_], _ => rfl
def t_runs_in (K : PySem.W.Frag) (sp : Sp) (E : XK) : TS := (tSeq (tIfS (tNot (tB (tIsi K "tuple" (tVar 0)))) (tRet (tLst (tCons (tVar 0) tNil))) tNext)
  (tSeq (tAsg (tLst tNil) (gName 1))
   (tSeq (tFor (iTup K (tVar 0)) (gName 2) (tDrop (tBM K "list" rExtend (tVar 1) (tCons (tCall sp [] E (tCons (tVar 2) tNil)) tNil))))
    (tRet (tVar 1)))))
theorem runsL_take (ps : List Pl) (j : Nat) : (Pl.runsL (ps.take j)).length ≤ (Pl.runsL ps).length := by
  have e : Pl.runsL ps = Pl.runsL (ps.take j) ++ Pl.runsL (ps.drop j) := by
    rw [Pl.runsL_map, Pl.runsL_map, Pl.runsL_map, ← List.flatten_append, ← List.map_append, List.take_append_drop]
  rw [e, List.length_append]
  omega
theorem runsL_snoc {ps : List Pl} {j : Nat} {p : Pl} (h : ps[j]? = some p) : Pl.runsL (ps.take (j + 1)) = Pl.runsL (ps.take j) ++ p.runs := by
  rw [List.take_succ, h, Pl.runsL_map, Pl.runsL_map, List.map_append, List.flatten_append]
  simp
theorem pure_runs_in {K : PySem.W.Frag} (d : Nat) : ∀ vs H Q E, spr_runs_in K (d + 1) vs H Q E → t_runs_in K (spr_runs_in K d) E { nx := fun _ H' => Q .non H', rt := Q } (start N_runs_in vs) H := by
  intro vs H Q E hyp
  unfold spr_runs_in at hyp
  match vs, hyp with
  | [pv], hyp =>
    obtain ⟨pl, hp, hd, hl, k⟩ := hyp
    cases pl with
    | leaf n =>
      have e := PlR.unleaf hp
      subst e
      refine ⟨_, rfl, isi_go (t := "int") (b := false) (.base (.int n)) (by decide +kernel) ⟨_, rfl, _, rfl, szle (by show 1 ≤ 100000; decide), fun l hl => ?_⟩⟩
      exact k l _ hl upd_same (Rs.Same.new hl)
    | node ps =>
      obtain ⟨a, tv, rfl, et, pt⟩ := PlR.unnode hp
      rw [Pl.depth] at hd
      rw [Pl.runs] at hl k
      refine ⟨_, rfl, isi_go (t := "tuple") (b := true) (tyT (SqT.of et)) (by decide +kernel) ⟨_, rfl, ?_⟩⟩
      refine ⟨sz0, fun f hf => ?_⟩
      refine ⟨_, rfl, a, rfl, ⟨_, SqT.of ((Rs.Same.new hf) _ _ et)⟩, ?_⟩
      refine for_tup (K := K) (a := a) (xs := tv) (fun j σ H' => ∃ x2, σ = [some (.ref a), some (.ref f), x2] ∧ H' f = some (.lst ((Pl.runsL (ps.take j)).map V.int)) ∧ Same H H') ⟨none, rfl, upd_same, Rs.Same.new hf⟩ ?_ ?_ ?_
      · rintro j σ H' _ ⟨_, _, _, s⟩
        exact SqT.of (s _ _ et)
      · rintro j v σ H' hj ⟨x2, rfl, ef, s⟩
        obtain ⟨p, hp, hpv⟩ := P2.get pt hj
        have dl := Pl.depthL_le (List.mem_of_getElem? hp)
        have b1 := runsL_take ps (j + 1)
        rw [runsL_snoc hp, List.length_append] at b1
        refine ⟨_, rfl, .inl ⟨rfl, _, SqL.of ef⟩, _, rfl, p, PlR.st _ _ _ _ (TupLe.same s) hpv, by omega, by omega, fun l H2 hl2 el s2 => ?_⟩
        have ef2 := s2 _ _ ef
        refine ⟨f, l, _, _, rfl, rfl, ef2, el, szle (by rw [List.length_map, List.length_map]; omega), _, rfl, ?_, Rs.Same.mut (s.trans s2) hf⟩
        rw [upd_same, runsL_snoc hp, List.map_append]
      · rintro σ H' ⟨x2, rfl, ef, s⟩
        rw [List.take_of_length_le (by rw [pt.length]; exact Nat.le_refl _)] at ef
        exact ⟨_, rfl, k f H' hf ef s⟩
abbrev N_are_merges : List Str := ["plan", "ways", "part"]
abbrev P_are_merges : List Str := ["plan", "ways"]
mutual
def Pl.slim : Pl → Prop
  | .leaf _ => True
  | .node ps => ps.length ≤ 1000 ∧ Pl.slimL ps
def Pl.slimL : List Pl → Prop
  | [] => True
  | p :: ps => p.slim ∧ Pl.slimL ps
end
theorem Pl.slimL_of {ps : List Pl} (h : Pl.slimL ps) : ∀ p ∈ ps, p.slim := by
  induction ps with
  | nil => intro p hp; simp at hp
  | cons q ps ih =>
    rw [Pl.slimL] at h
    intro p hp
    rcases List.mem_cons.mp hp with e | e
    · rw [e]; exact h.1
    · exact ih h.2 p e
mutual
theorem Pl.slim_fits {w : Nat} (hw : w ≤ 1000) : ∀ p : Pl, p.fits w = true → p.slim
  | .leaf _, _ => trivial
  | .node ps, h => by
    rw [Pl.fits] at h
    simp only [Bool.and_eq_true, decide_eq_true_eq] at h
    exact ⟨by omega, Pl.slimL_fits hw ps h.2⟩
theorem Pl.slimL_fits {w : Nat} (hw : w ≤ 1000) : ∀ ps : List Pl, Pl.fitsL w ps = true → Pl.slimL ps
  | [], _ => trivial
  | p :: ps, h => by
    rw [Pl.fitsL] at h
    simp only [Bool.and_eq_true] at h
    exact ⟨Pl.slim_fits hw p h.1, Pl.slimL_fits hw ps h.2⟩
end
def spr_are_merges (K : PySem.W.Frag) (d : Nat) : Sp := fun vs H Q E => match vs with
  | [pv, wv] => ∃ (pl : Pl) (w : Nat), PlR H pv pl ∧ pl.depth < d ∧ pl.slim ∧ wv = .int (w : Int) ∧ ∀ H', Same H H' → Q (.bl (pl.fits w)) H'
  | _ => False
abbrev sp_are_merges (K : PySem.W.Frag) : Sp := spr_are_merges K 42
theorem no_are_merges (K : PySem.W.Frag) : ∀ vs H Q E, ¬ spr_are_merges K 0 vs H Q E := fun vs H Q E h => by
  unfold spr_are_merges at h
  match vs, h with
  | [_, _], ⟨_, _, _, h1, _⟩ => omega
theorem len_are_merges (K : PySem.W.Frag) : ∀ d vs H Q E, spr_are_merges K d vs H Q E → vs.length = 2 := fun d vs H Q E h => by
  unfold spr_are_merges at h
  match vs, h with
  | [_, _], _ => rfl
def t_are_merges (K : PySem.W.Frag) (sp : Sp) (E : XK) : TS := (tSeq (tIfS (tNot (tB (tIsi K "tuple" (tVar 0)))) (tRet (tC (.bl true))) tNext)
  (tRet (tAndV (tChain xLe xLe (tC (.int 2)) (tCB1 (xLen K) (tVar 0)) (tVar 1)) (tOp (xEqE K) (tLc (iTup K (tVar 0)) (gName 2) (tNot (tB (tCall sp [] E0 (tCons (tVar 2) (tCons (tVar 1) tNil))))) (tVar 2) [2]) (tLst tNil)))))
theorem pure_are_merges {K : PySem.W.Frag} (d : Nat) : ∀ vs H Q E, spr_are_merges K (d + 1) vs H Q E → t_are_merges K (spr_are_merges K d) E { nx := fun _ H' => Q .non H', rt := Q } (start N_are_merges vs) H := by
  intro vs H Q E hyp
  unfold spr_are_merges at hyp
  match vs, hyp with
  | [pv, wv], hyp =>
    obtain ⟨pl, w, hp, hd, sl, rfl, k⟩ := hyp
    cases pl with
    | leaf n =>
      have e := PlR.unleaf hp
      subst e
      exact ⟨_, rfl, isi_go (t := "int") (b := false) (.base (.int n)) (by decide +kernel) ⟨_, rfl, k H (Same.refl H)⟩⟩
    | node ps =>
      obtain ⟨a, tv, rfl, et, pt⟩ := PlR.unnode hp
      have lt := pt.length
      rw [Pl.depth] at hd
      rw [Pl.slim] at sl
      rw [Pl.fits] at k
      have sls := Pl.slimL_of sl.2
      refine ⟨_, rfl, isi_go (t := "tuple") (b := true) (tyT (SqT.of et)) (by decide +kernel) ⟨_, rfl, ?_⟩⟩
      refine ⟨_, rfl, lenT ⟨a, rfl, et⟩ rfl ⟨_, _, rfl, rfl, _, rfl, ?_⟩⟩
      rw [lt]
      by_cases h2 : (2 : Int) ≤ ((ps.length : Nat) : Int)
      · rw [decide_eq_true h2]
        refine ⟨_, rfl, _, _, rfl, rfl, _, rfl, ?_⟩
        have e2 : decide (2 ≤ ps.length) = true := decide_eq_true (by omega)
        by_cases hw : ((ps.length : Nat) : Int) ≤ (w : Int)
        · rw [decide_eq_true hw]
          have ew : decide (ps.length ≤ w) = true := decide_eq_true (by omega)
          rw [e2, ew, Bool.true_and, Bool.true_and] at k
          refine ⟨_, rfl, a, rfl, ⟨_, SqT.of et⟩, fun D hD => ?_⟩
          refine lcm_tup (S := PlR) (fun p : Pl => if (!p.fits w) = true then some p else none) PlR.st et pt hD ?_ (by omega) ?_
          · intro j v x H' hx hj r s skip put
            have dl := Pl.depthL_le (List.mem_of_getElem? hx)
            have r' := PlR.st _ _ _ _ (TupLe.same s) r
            refine ⟨rfl, _, rfl, _, rfl, x, w, r', by omega, sls x (List.mem_of_getElem? hx), rfl, fun H2 s2 => ⟨_, rfl, ?_⟩⟩
            cases hf : x.fits w with
            | true => exact skip H2 s2 (by rw [hf]; rfl)
            | false => exact ⟨_, rfl, put H2 _ _ s2 (by rw [hf]; rfl) (PlR.st _ _ _ _ (TupLe.same s2) r')⟩
          · intro H2 L s
            rw [fm_if (f := fun p => p), List.map_id'] at L
            obtain ⟨dv, ed, pd⟩ := L
            refine ⟨sz0, fun q hq => eqE ed hq (b := Pl.fitsL w ps) ?_ (k _ (s.trans (Rs.Same.new hq)))⟩
            have : dv.isEmpty = (ps.filter fun p => !p.fits w).isEmpty := by
              have l := pd.length
              cases dv <;> cases hh : (ps.filter fun p => !p.fits w) <;> simp [hh] at l ⊢
            rw [this, filter_nil_all, Pl.fitsL_all]
        · rw [decide_eq_false hw]
          have ew : decide (ps.length ≤ w) = false := decide_eq_false (by omega)
          rw [e2, ew] at k
          exact k H (Same.refl H)
      · rw [decide_eq_false h2]
        have e2 : decide (2 ≤ ps.length) = false := decide_eq_false (by omega)
        rw [e2] at k
        exact ⟨_, rfl, k H (Same.refl H)⟩
abbrev N_rows_in : List Str := ["lengths", "plan", "run"]
abbrev P_rows_in : List Str := ["lengths", "plan"]
def sumOf (ls : List Int) (ids : List Int) : Int := (ids.map fun r => ls.getD r.toNat 0).sum
def sp_rows_in (K : PySem.W.Frag) : Sp := fun vs H Q E => match vs with
  | [lv, pv] => ∃ (l : Addr) (ls : List Int) (pl : Pl), lv = .ref l ∧ H l = some (.lst (ls.map V.int)) ∧ PlR H pv pl ∧ pl.depth < 42 ∧ pl.runs.length ≤ 1000 ∧ (∀ r ∈ pl.runs, 0 ≤ r ∧ r < ls.length) ∧ ∀ H', Same H H' → Q (.int (sumOf ls pl.runs)) H'
  | _ => False
def t_rows_in (K : PySem.W.Frag) (E : XK) : TS := (tRet (tCB1 (rSum K) (tLc (iList K (tCall (sp_runs_in K) [] E (tCons (tVar 1) tNil))) (gName 2) tYes (tOp (rIxL K) (tVar 0) (tVar 2)) [2])))
theorem pure_rows_in {K : PySem.W.Frag} : ∀ vs H Q E, sp_rows_in K vs H Q E → t_rows_in K E { nx := fun _ H' => Q .non H', rt := Q } (start N_rows_in vs) H := by
  intro vs H Q E hyp
  match vs, hyp with
  | [lv, pv], hyp =>
    obtain ⟨l, ls, pl, rfl, hl, hp, hd, hn, hin, k⟩ := hyp
    refine ⟨_, rfl, pl, hp, hd, hn, fun lr H1 hlr er s1 => ?_⟩
    refine ⟨lr, rfl, ⟨_, SqL.of er⟩, fun D hD => ?_⟩
    refine lcm_list (S := IntAt) (fun r : Int => some (ls.getD r.toNat 0)) IntAt.st er (ints_paired pl.runs) hD ?_ (by omega) ?_
    · intro j v x H' hx hj r s skip put
      have ev : v = .int x := r
      subst ev
      obtain ⟨h0, h1⟩ := hin x (List.mem_of_getElem? hx)
      refine ⟨rfl, lc_yes ⟨_, rfl, _, rfl, ixL ((s1.trans s) _ _ hl) (j := x.toNat) (by omega) (v := .int (ls.getD x.toNat 0)) ?_ (put H' _ _ (Same.refl _) rfl rfl)⟩⟩
      rw [List.getElem?_map, List.getElem?_eq_getElem (by omega), getD_lt (by omega)]
      rfl
    · intro H2 L s
      rw [fm_some] at L
      exact ⟨D, _, rfl, SqL.of (Lst.ints.mp L), k H2 (s1.trans s)⟩
abbrev N_moved : List Str := ["lengths", "plan", "part"]
abbrev P_moved : List Str := ["lengths", "plan"]
mutual
def Pl.cost (ls : List Int) : Pl → Int
  | .leaf _ => 0
  | .node ps => sumOf ls (Pl.runsL ps) + Pl.costL ls ps
def Pl.costL (ls : List Int) : List Pl → Int
  | [] => 0
  | p :: ps => p.cost ls + Pl.costL ls ps
end
theorem Pl.costL_map (ls : List Int) (ps : List Pl) : Pl.costL ls ps = (ps.map fun p => p.cost ls).sum := by
  induction ps with
  | nil => rfl
  | cons p ps ih => rw [Pl.costL, ih, List.map_cons, List.sum_cons]
def spr_moved (K : PySem.W.Frag) (d : Nat) : Sp := fun vs H Q E => match vs with
  | [lv, pv] => ∃ (l : Addr) (ls : List Int) (pl : Pl), lv = .ref l ∧ H l = some (.lst (ls.map V.int)) ∧ PlR H pv pl ∧ pl.depth < d ∧ pl.depth < 42 ∧ pl.slim ∧ pl.runs.length ≤ 1000 ∧ (∀ r ∈ pl.runs, 0 ≤ r ∧ r < ls.length) ∧ ∀ H', Same H H' → Q (.int (pl.cost ls)) H'
  | _ => False
abbrev sp_moved (K : PySem.W.Frag) : Sp := spr_moved K 42
theorem no_moved (K : PySem.W.Frag) : ∀ vs H Q E, ¬ spr_moved K 0 vs H Q E := fun vs H Q E h => by
  unfold spr_moved at h
  match vs, h with
  | [_, _], ⟨_, _, _, _, _, _, h1, _⟩ => omega
theorem len_moved (K : PySem.W.Frag) : ∀ d vs H Q E, spr_moved K d vs H Q E → vs.length = 2 := fun d vs H Q E h => by
  unfold spr_moved at h
  match vs, h with
  | [_, _], _ => rfl
def t_moved (K : PySem.W.Frag) (sp : Sp) (E : XK) : TS := (tSeq (tIfS (tNot (tB (tIsi K "tuple" (tVar 1)))) (tRet (tC (.int 0))) tNext)
  (tRet (tOp xAdd (tCall (sp_rows_in K) [] E (tCons (tVar 0) (tCons (tVar 1) tNil))) (tCB1 (rSum K) (tLc (iTup K (tVar 1)) (gName 2) tYes (tCall sp [] E0 (tCons (tVar 0) (tCons (tVar 2) tNil))) [2])))))
theorem Pl.runs_sub {ps : List Pl} {p : Pl} (h : p ∈ ps) : p.runs.Sublist (Pl.runsL ps) := by
  rw [Pl.runsL_map]
  exact List.sublist_flatten_of_mem (List.mem_map_of_mem h)
theorem pure_moved {K : PySem.W.Frag} (d : Nat) : ∀ vs H Q E, spr_moved K (d + 1) vs H Q E → t_moved K (spr_moved K d) E { nx := fun _ H' => Q .non H', rt := Q } (start N_moved vs) H := by
  intro vs H Q E hyp
  unfold spr_moved at hyp
  match vs, hyp with
  | [lv, pv], hyp =>
    obtain ⟨l, ls, pl, rfl, hl, hp, hd, hd2, sl, hn, hin, k⟩ := hyp
    cases pl with
    | leaf n =>
      have e := PlR.unleaf hp
      subst e
      exact ⟨_, rfl, isi_go (t := "int") (b := false) (.base (.int n)) (by decide +kernel) ⟨_, rfl, k H (Same.refl H)⟩⟩
    | node ps =>
      have hp0 := hp
      obtain ⟨a, tv, rfl, et, pt⟩ := PlR.unnode hp
      have dn : (Pl.node ps).depth = Pl.depthL ps + 1 := by rw [Pl.depth]
      have rn : (Pl.node ps).runs = Pl.runsL ps := by rw [Pl.runs]
      have sl0 := sl
      rw [Pl.slim] at sl
      have sls := Pl.slimL_of sl.2
      have lt := pt.length
      refine ⟨_, rfl, isi_go (t := "tuple") (b := true) (tyT (SqT.of et)) (by decide +kernel) ⟨_, rfl, ?_⟩⟩
      refine ⟨_, rfl, _, rfl, l, ls, .node ps, rfl, hl, hp0, hd2, hn, hin, fun H1 s1 => ?_⟩
      refine ⟨_, rfl, a, rfl, ⟨_, SqT.of (s1 _ _ et)⟩, fun D hD => ?_⟩
      refine lcm_tup (S := IntAt) (fun p : Pl => some (p.cost ls)) IntAt.st (s1 _ _ et) (Paired.tl PlR.st (TupLe.same s1) pt) hD ?_ (by omega) ?_
      · intro j v x H' hx hj r s skip put
        have xm := List.mem_of_getElem? hx
        have dl := Pl.depthL_le xm
        have sb := Pl.runs_sub xm
        have sbl := sb.length_le
        rw [rn] at hn hin
        refine ⟨rfl, lc_yes ⟨_, rfl, _, rfl, l, ls, x, rfl, (s1.trans s) _ _ hl, PlR.st _ _ _ _ (TupLe.same s) r, by omega, by omega, sls x xm, by omega, fun q hq => hin q (sb.subset hq), fun H2 s2 => put H2 _ _ s2 rfl rfl⟩⟩
      · intro H2 L s
        rw [fm_some] at L
        refine ⟨D, _, rfl, SqL.of (Lst.ints.mp L), _, _, rfl, rfl, ?_⟩
        have e : sumOf ls (Pl.node ps).runs + (ps.map fun p => p.cost ls).sum = (Pl.node ps).cost ls := by
          rw [Pl.cost, Pl.costL_map, rn]
        dsimp only
        rw [e]
        exact k H2 (s1.trans s)
theorem rng_len (n : Nat) : (rng 0 n).length = n := by
  unfold rng
  rw [List.length_map, List.length_range]
  omega
theorem rng_in {n : Nat} {r : Int} (h : r ∈ rng 0 n) : 0 ≤ r ∧ r < n := by
  obtain ⟨i, hi, rfl⟩ := List.mem_map.mp h
  have := List.mem_range.mp hi
  constructor <;> omega
theorem rng_up (n : Nat) : (rng 0 n).Pairwise (· ≤ ·) := by
  unfold rng
  rw [List.pairwise_map]
  exact List.Pairwise.imp (fun h => by omega) (List.pairwise_lt_range (n := ((n : Int) - 0).toNat))
theorem int_sorted : ∀ {xs ys : List Int}, xs.Perm ys → xs.Pairwise (· ≤ ·) → ys.Pairwise (· ≤ ·) → xs = ys
  | [], ys, p, _, _ => p.nil_eq
  | x :: xs, [], p, _, _ => absurd p.symm.nil_eq (by simp)
  | x :: xs, y :: ys, p, a, b => by
    have e : x = y := by
      have hx : x ∈ y :: ys := p.mem_iff.mp (List.mem_cons_self ..)
      have hy : y ∈ x :: xs := p.mem_iff.mpr (List.mem_cons_self ..)
      rcases List.mem_cons.mp hx with h | h
      · exact h
      · rcases List.mem_cons.mp hy with h' | h'
        · exact h'.symm
        · have b1 := List.rel_of_pairwise_cons b h
          have a1 := List.rel_of_pairwise_cons a h'
          omega
    subst e
    rw [int_sorted p.cons_inv (List.Pairwise.of_cons a) (List.Pairwise.of_cons b)]
theorem ints_dp {K : PySem.W.Frag} {H : Hp} {l : Addr} {ns : List Int} (h : H l = some (.lst (ns.map V.int))) : Dp K H (.ref l) (.list (ns.map PyData.int)) := lst_dp (R := IntAt) (f := PyData.int) (fun v x e => by
  have e : v = .int x := e
  subst e
  exact .int x) (Lst.ints.mpr h)
theorem ints_ok {ns : List Int} (h : ns.length ≤ 100000) : okD 2 (.list (ns.map PyData.int)) := list_ok (n := 1) h fun _ _ => trivial
end Rs

namespace Rs
open PySem PySem.Spec PyProof.Rows L2
open _root_.TL
end Rs

namespace Rs
open PySem PySem.Spec PyProof.Rows L2
open _root_.TL
theorem num_ne {n : Nat} (h : n < 100) : numS n ≠ ("(" : Str) ∧ numS n ≠ (")" : Str) ∧ numS n ≠ ("" : Str) := by
  have : ∀ n : Nat, n < 100 → numS n ≠ ("(" : Str) ∧ numS n ≠ (")" : Str) ∧ numS n ≠ ("" : Str) := by decide +kernel
  exact this n h
theorem Pl.first {p : Pl} (hr : ∀ r ∈ p.runs, 0 ≤ r ∧ r < 100) : ∃ w r, p.words = w :: r ∧ w ≠ (")" : Str) := by
  cases p with
  | leaf n =>
    obtain ⟨h0, h1⟩ := hr n (by simp [Pl.runs])
    have e : n = ((n.toNat : Nat) : Int) := by omega
    refine ⟨numS n, [], by rw [Pl.words], ?_⟩
    rw [e]
    exact (num_ne (by omega)).2.1
  | node ps => exact ⟨"(", _, by rw [Pl.words], by decide +kernel⟩
end Rs

namespace Rs
open PySem PySem.Spec PyProof.Rows L2
open _root_.TL
open _root_.TL
open _root_.TL
end Rs

namespace Rs
open PySem PySem.Spec PyProof.Rows L2
abbrev N_law_lengths : List Str := ["_law_box", "_law_most", "_law_found", "_law_k", "_law_some"]
abbrev P_law_lengths : List Str := ["_law_box", "_law_most"]
def sp_law_lengths (K : PySem.W.Frag) : Sp := fun vs H Q E => match vs with
  | [b, m] => ∃ a l n, b = .ref a ∧ m = .int n ∧ 1 ≤ n ∧ n ≤ 40 ∧ Box H a l ∧ ∀ f (ls : List Int) H', H f = none → H' f = some (.lst (ls.map V.int)) → GoodLens ls → ls.length ≤ n → Box H' a l → But [a, l] H H' → Q (.ref f) H'
  | _ => False
def t_law_lengths (K : PySem.W.Frag) (E : XK) : TS := (tSeq (tAsg (tLst tNil) (gName 2))
  (tSeq (tFor (iRng1 (tCons (tOpD xAdd (.int 1) (tCall (sp_law_take K) [] E (tCons (tVar 0) (tCons (tVar 1) tNil)))) tNil)) (gName 3) 
     (tSeq (tAsg (tLst (tCons (tOpD xAdd (.int 1) (tCall (sp_law_take K) [] E (tCons (tVar 0) (tConsC (.int 9) tNil)))) (tCons (tOpD xAdd (.int 1) (tCall (sp_law_take K) [] E (tCons (tVar 0) (tConsC (.int 2) tNil)))) (tCons (tOpC xAdd (tVar 3) (.int 1)) (tCons (tOpD xAdd (.int 1) (tCall (sp_law_take K) [] E (tCons (tVar 0) (tCons (tOpC xPow (tC (.int 10)) (.int 6)) tNil)))) (tCons (tOpC xPow (tC (.int 10)) (.int 6)) tNil)))))) (gName 4))
     (tDrop (tBM K "list" rAppend (tVar 2) (tCons (tOp (rIxL K) (tVar 4) (tOp (rIxL K) (tLst (tConsC (.int 0) (tConsC (.int 0) (tConsC (.int 1) (tConsC (.int 2) (tConsC (.int 3) (tConsC (.int 4) tNil))))))) (tCall (sp_law_take K) [] E (tCons (tVar 0) (tConsC (.int 6) tNil))))) tNil)))))
   (tRet (tVar 2))))
theorem pure_law_lengths {K : PySem.W.Frag} : ∀ vs H Q E, sp_law_lengths K vs H Q E → t_law_lengths K E { nx := fun _ H' => Q .non H', rt := Q } (start N_law_lengths vs) H := by
  intro vs H Q E hyp
  match vs, hyp with
  | [b, m], hyp =>
    obtain ⟨a, l, n, rfl, rfl, n1, n2, B, k⟩ := hyp
    obtain ⟨ns, st, ha, hl, _⟩ := B.ex
    refine ⟨sz0, fun f hf => ?_⟩
    have fa := (ne_of_none ha hf).symm
    have fl := (ne_of_none hl hf).symm
    refine ⟨_, rfl, _, rfl, a, l, _, rfl, rfl, by omega, by omega, B.same (Rs.Same.new hf), fun r H1 r0 r1 B1 k1 => ⟨_, _, rfl, rfl, _, rfl, by omega, by omega, ?_⟩⟩
    have kk : But [a, l] H H1 := (But.same (Rs.Same.new hf)).trans k1
    have ef := k1 _ _ upd_same (nn fa fl)
    refine for_range (lo := 0) (n := (1 + r).toNat) (fun i σ H' => ∃ (ls : List Int) (x3 x4 : Option V), σ = [some (.ref a), some (.int n), some (.ref f), x3, x4] ∧ H' f = some (.lst (ls.map V.int)) ∧ ls.length = i ∧ (∀ x ∈ ls, 1 ≤ x ∧ x ≤ 1000000) ∧ Box H' a l ∧ But [a, l] H H') ⟨[], none, none, rfl, ef, rfl, by simp, B1, kk⟩ ?_ ?_
    · rintro i σ H2 hi ⟨ls, x3, x4, rfl, ef2, hlen, hall, B2, k2⟩
      refine ⟨_, rfl, a, l, _, rfl, rfl, by decide, by decide, B2, fun g1 H3 g10 g11 B3 k3 => ⟨_, _, rfl, rfl, ?_⟩⟩
      refine ⟨_, rfl, a, l, _, rfl, rfl, by decide, by decide, B3, fun g2 H4 g20 g21 B4 k4 => ⟨_, _, rfl, rfl, ?_⟩⟩
      refine ⟨_, rfl, _, _, rfl, rfl, ?_⟩
      refine ⟨_, rfl, _, _, rfl, rfl, ⟨by decide, by decide, by decide⟩, a, l, _, rfl, rfl, by decide, by decide, B4, fun g3 H5 g30 g31 B5 k5 => ⟨_, _, rfl, rfl, ?_⟩⟩
      refine ⟨_, _, rfl, rfl, ⟨by decide, by decide, by decide⟩, szle (by show 5 ≤ 100000; decide), fun s hs => ?_⟩
      have k25 := (k3.trans k4).trans k5
      have s6 : Same H5 (upd H5 s (.lst [.int (1 + g1), .int (1 + g2), .int (0 + (i : Int) + 1), .int (1 + g3), .int (10 ^ (6 : Int).toNat)])) := Rs.Same.new hs
      have es : upd H5 s (.lst [.int (1 + g1), .int (1 + g2), .int (0 + (i : Int) + 1), .int (1 + g3), .int (10 ^ (6 : Int).toNat)]) s = some _ := upd_same
      generalize upd H5 s (.lst [.int (1 + g1), .int (1 + g2), .int (0 + (i : Int) + 1), .int (1 + g3), .int (10 ^ (6 : Int).toNat)]) = H6 at s6 es ⊢
      have B6 := B5.same s6
      have k26 := k25.trans (But.same s6)
      obtain ⟨_, _, ha5, hl5, _⟩ := B5.ex
      have sa := (ne_of_none ha5 hs).symm
      have sl := (ne_of_none hl5 hs).symm
      have ef6 := k26 _ _ ef2 (nn fa fl)
      refine ⟨_, rfl, .inl ⟨rfl, _, SqL.of ef6⟩, _, rfl, szle (by show 6 ≤ 100000; decide), fun q hq => ?_⟩
      have s7 : Same H6 (upd H6 q (.lst [.int 0, .int 0, .int 1, .int 2, .int 3, .int 4])) := Rs.Same.new hq
      have eq : upd H6 q (.lst [.int 0, .int 0, .int 1, .int 2, .int 3, .int 4]) q = some _ := upd_same
      generalize upd H6 q (.lst [.int 0, .int 0, .int 1, .int 2, .int 3, .int 4]) = H7 at s7 eq ⊢
      have B7 := B6.same s7
      obtain ⟨_, _, ha6, hl6, _⟩ := B6.ex
      have qa := (ne_of_none ha6 hq).symm
      have ql := (ne_of_none hl6 hq).symm
      refine ⟨_, rfl, a, l, _, rfl, rfl, by decide, by decide, B7, fun g4 H8 g40 g41 B8 k8 => ?_⟩
      have eq8 := k8 _ _ eq (nn qa ql)
      have es8 := k8 _ _ (s7 _ _ es) (nn sa sl)
      have k28 := (k26.trans (But.same s7)).trans k8
      have ef8 := k28 _ _ ef2 (nn fa fl)
      have fin : ∀ (i1 : Nat) (x : Int), ([V.int 0, .int 0, .int 1, .int 2, .int 3, .int 4] : List V)[g4.toNat]? = some (.int (i1 : Int)) → ([.int (1 + g1), .int (1 + g2), .int (0 + (i : Int) + 1), .int (1 + g3), .int (10 ^ (6 : Int).toNat)] : List V)[i1]? = some (.int x) → 1 ≤ x → x ≤ 1000000 →
          rIxL K (.ref q) (.int g4) H8 (fun w H9 => rIxL K (.ref s) w H9 (fun v H10 => rAppend (.ref f) [v] H10 fun _ H11 => ∃ (ls : List Int) (x3 x4 : Option V), [some (V.ref a), some (V.int n), some (V.ref f), some (V.int (0 + (i : Int))), some (V.ref s)] = [some (V.ref a), some (V.int n), some (V.ref f), x3, x4] ∧ H11 f = some (.lst (ls.map V.int)) ∧ ls.length = i + 1 ∧ (∀ x ∈ ls, 1 ≤ x ∧ x ≤ 1000000) ∧ Box H11 a l ∧ But [a, l] H H11)) := fun i1 x e1 e2 x1 x2 => by
        refine ixL eq8 (j := g4.toNat) (by omega) e1 (ixL es8 (j := i1) rfl e2 ⟨_, _, _, rfl, rfl, ef8, szlt (by rw [List.length_map]; omega), ls ++ [x], _, _, rfl, by rw [upd_same, List.map_append] <;> rfl, by simp [hlen], fun y hy => ?_, B8.keep (fun o e => up e fa.symm) (fun o e => up e fl.symm), (k2.trans k28).mut hf⟩)
        rcases List.mem_append.mp hy with hy | hy
        · exact hall y hy
        · rw [List.mem_singleton.mp hy]
          exact ⟨x1, x2⟩
      have pick : g4 = 0 ∨ g4 = 1 ∨ g4 = 2 ∨ g4 = 3 ∨ g4 = 4 ∨ g4 = 5 := by omega
      have p10 : ((10 : Int) ^ (6 : Int).toNat) = 1000000 := by decide
      rcases pick with e | e | e | e | e | e
      · subst e; exact fin 0 _ rfl rfl (by omega) (by omega)
      · subst e; exact fin 0 _ rfl rfl (by omega) (by omega)
      · subst e; exact fin 1 _ rfl rfl (by omega) (by omega)
      · subst e; exact fin 2 _ rfl rfl (by omega) (by omega)
      · subst e; exact fin 3 _ rfl rfl (by omega) (by omega)
      · subst e; exact fin 4 _ rfl rfl (by rw [p10]; decide) (by rw [p10]; decide)
    · rintro σ H2 ⟨ls, x3, x4, rfl, ef2, hlen, hall, B2, k2⟩
      exact ⟨_, rfl, k f ls H2 hf ef2 ⟨by omega, by omega, hall⟩ (by omega) B2 k2⟩
abbrev N_law_plan : List Str := ["_law_box", "_law_runs", "_law_ways", "_law_left", "_law_many", "_law_some", "_law_k"]
abbrev P_law_plan : List Str := ["_law_box", "_law_runs", "_law_ways"]
def sp_law_plan (K : PySem.W.Frag) : Sp := fun vs H Q E => match vs with
  | [b, rv, wv] => ∃ (a l lr : Addr) (ids : List Int) (w : Nat), b = .ref a ∧ rv = .ref lr ∧ H lr = some (.lst (ids.map V.int)) ∧ wv = .int (w : Int) ∧ 2 ≤ w ∧ w ≤ 6 ∧ 1 ≤ ids.length ∧ ids.length ≤ 40 ∧ Box H a l ∧
    ∀ v (pl : Pl) H', PlR H' v pl → pl.fits w = true → pl.runs.Perm ids → Box H' a l → But [a, l] H H' → Q v H'
  | _ => False
def t_law_plan (K : PySem.W.Frag) (E : XK) : TS := (tSeq (tAsg (tCB1 (xList K) (tVar 1)) (gName 3))
  (tSeq (tWhile (tTest (tOpC xGt (tCB1 (xLen K) (tVar 3)) (.int 1))) 
     (tSeq (tAsg (tCB xMin2 (tCons (tCB1 (xLen K) (tVar 3)) (tCons (tOpD xAdd (.int 2) (tCall (sp_law_take K) [] E (tCons (tVar 0) (tCons (tOpC xSub (tVar 2) (.int 1)) tNil)))) tNil))) (gName 4))
     (tSeq (tAsg (tLc (iRng1 (tCons (tVar 4) tNil)) (gName 6) tYes (tBM K "list" rPopAt (tVar 3) (tCons (tCall (sp_law_take K) [] E0 (tCons (tVar 0) (tCons (tCB1 (xLen K) (tVar 3)) tNil))) tNil)) [6]) (gName 5))
      (tDrop (tBM K "list" xInsert (tVar 3) (tCons (tCall (sp_law_take K) [] E (tCons (tVar 0) (tCons (tOpC xAdd (tCB1 (xLen K) (tVar 3)) (.int 1)) tNil))) (tCons (tCB1 (xTuple K) (tVar 5)) tNil)))))))
   (tRet (tOpC (rIxL K) (tVar 3) (.int 0)))))
theorem leaf_paired {H : Hp} : ∀ ids : List Int, Paired (PlR H) (ids.map V.int) (ids.map Pl.leaf)
  | [] => .nil
  | x :: ids => .cons (.leaf x) (leaf_paired ids)
theorem leaf_runs : ∀ ids : List Int, Pl.runsL (ids.map Pl.leaf) = ids
  | [] => rfl
  | x :: ids => by rw [List.map_cons, Pl.runsL, leaf_runs ids, Pl.runs]; rfl
theorem runsL_app (a b : List Pl) : Pl.runsL (a ++ b) = Pl.runsL a ++ Pl.runsL b := by
  rw [Pl.runsL_map, Pl.runsL_map, Pl.runsL_map, List.map_append, List.flatten_append]
theorem runsL_perm {a b : List Pl} (p : a.Perm b) : (Pl.runsL a).Perm (Pl.runsL b) := by
  rw [Pl.runsL_map, Pl.runsL_map]
  exact (p.map _).flatten
theorem erase_perm {α : Type} : ∀ {l : List α} {i : Nat} (h : i < l.length), (l[i] :: l.eraseIdx i).Perm l
  | [], _, h => by simp at h
  | x :: l, 0, _ => .refl _
  | x :: l, i + 1, h => by
    have h' : i < l.length := by simpa using h
    show (l[i] :: x :: l.eraseIdx i).Perm (x :: l)
    exact (List.Perm.swap ..).trans ((erase_perm h').cons x)
theorem pure_law_plan {K : PySem.W.Frag} : ∀ vs H Q E, sp_law_plan K vs H Q E → t_law_plan K E { nx := fun _ H' => Q .non H', rt := Q } (start N_law_plan vs) H := by
  intro vs H Q E hyp
  match vs, hyp with
  | [b, rv, wv], hyp =>
    obtain ⟨a, l, lr, ids, w, rfl, rfl, hlr, rfl, w2, w6, i1, i2, B, k⟩ := hyp
    obtain ⟨ns, st, ha, hl, _⟩ := B.ex
    refine ⟨_, rfl, lr, _, rfl, .inl (SqL.of hlr), fun f hf => ?_⟩
    have fa := (ne_of_none ha hf).symm
    have fl := (ne_of_none hl hf).symm
    refine ⟨fun m σ H' => ∃ (vs : List V) (ps : List Pl) (x4 x5 x6 : Option V), m = ps.length ∧ σ = [some (.ref a), some (.ref lr), some (.int (w : Int)), some (.ref f), x4, x5, x6] ∧ H' f = some (.lst vs) ∧ Paired (PlR H') vs ps ∧ 1 ≤ ps.length ∧ ps.length ≤ 40 ∧ (∀ p ∈ ps, p.fits w = true) ∧ (Pl.runsL ps).Perm ids ∧ Box H' a l ∧ But [a, l] H H',
      ⟨_, _, ids.map Pl.leaf, none, none, none, rfl, rfl, upd_same, leaf_paired ids, by simpa using i1, by simpa using i2, fun p hp => ?_, by rw [leaf_runs], B.same (Rs.Same.new hf), But.same (Rs.Same.new hf)⟩, ?_⟩
    · obtain ⟨x, _, rfl⟩ := List.mem_map.mp hp
      rw [Pl.fits]
    rintro m σ H1 ⟨vs, ps, x4, x5, x6, rfl, rfl, ef, pp, p1, p40, fit, pm, B1, k1⟩
    have lp := pp.length
    refine ⟨_, rfl, lenL ef rfl ⟨_, _, rfl, rfl, _, rfl, ?_⟩⟩
    by_cases hgt : 1 < ps.length
    · rw [decide_eq_true (show (1 : Int) < ((vs.length : Nat) : Int) by omega)]
      refine ⟨fun σ H' => ∃ (vs : List V) (ps' : List Pl) (x4 x5 x6 : Option V), ps'.length < ps.length ∧ σ = [some (.ref a), some (.ref lr), some (.int (w : Int)), some (.ref f), x4, x5, x6] ∧ H' f = some (.lst vs) ∧ Paired (PlR H') vs ps' ∧ 1 ≤ ps'.length ∧ ps'.length ≤ 40 ∧ (∀ p ∈ ps', p.fits w = true) ∧ (Pl.runsL ps').Perm ids ∧ Box H' a l ∧ But [a, l] H H', ?_, ?_⟩
      · rintro σ H' ⟨vs', ps', x4, x5, x6, q1, q2⟩
        exact ⟨_, q1, vs', ps', x4, x5, x6, rfl, q2⟩
      refine ⟨_, rfl, lenL ef rfl ⟨_, rfl, _, rfl, _, _, rfl, rfl, a, l, _, rfl, rfl, by omega, by omega, B1, fun r H2 r0 r1 B2 k2 => ⟨_, _, rfl, rfl, _, _, rfl, ?_⟩⟩⟩
      obtain ⟨mn, emn, m2, mw, mle⟩ : ∃ mn : Nat, (if 2 + r < ((vs.length : Nat) : Int) then 2 + r else ((vs.length : Nat) : Int)) = (mn : Int) ∧ 2 ≤ mn ∧ mn ≤ w ∧ mn ≤ ps.length := by
        split
        · exact ⟨(2 + r).toNat, by omega, by omega, by omega, by omega⟩
        · exact ⟨ps.length, by omega, by omega, by omega, by omega⟩
      rw [emn]
      have ef2 := k2 _ _ ef (nn fa fl)
      have pp2 := Paired.tl PlR.st (B1.tup k2) pp
      have k02 := k1.trans k2
      refine ⟨_, rfl, _, rfl, by omega, by omega, fun D hD => ?_⟩
      obtain ⟨_, _, ha2, hl2, _⟩ := B2.ex
      have Da := (ne_of_none ha2 hD).symm
      have Dl := (ne_of_none hl2 hD).symm
      have Df := (ne_of_none ef2 hD).symm
      have hD0 : H D = none := none_of_but k02 hD (nn Da Dl)
      refine lc_range (lo := 0) (n := (mn : Int).toNat) (fun i H' => ∃ (vs : List V) (ps' : List Pl) (ws : List V) (qs : List Pl), H' f = some (.lst vs) ∧ Paired (PlR H') vs ps' ∧ H' D = some (.lst ws) ∧ Paired (PlR H') ws qs ∧ ps'.length + i = ps.length ∧ qs.length = i ∧ (∀ p ∈ ps', p.fits w = true) ∧ (∀ p ∈ qs, p.fits w = true) ∧ (Pl.runsL ps' ++ Pl.runsL qs).Perm ids ∧ Box H' a l ∧ But [a, l] H H')
        ⟨vs, ps, [], [], un ef2 hD, Paired.tl PlR.st (TupLe.new hD) pp2, upd_same, .nil, rfl, rfl, fit, by simp, by simpa [Pl.runsL] using pm, B2.same (Rs.Same.new hD), k02.new hD⟩ ?_ ?_
      · rintro i H3 hi ⟨vs3, ps3, ws3, qs3, ef3, pp3, eD3, qq3, l3, lq3, f3, g3, pm3, B3, k3⟩
        have lv3 := pp3.length
        have lw3 := qq3.length
        refine ⟨rfl, lc_yes ⟨_, rfl, .inl ⟨rfl, _, SqL.of ef3⟩, _, rfl, _, rfl, lenL ef3 rfl ⟨a, l, _, rfl, rfl, by omega, by omega, B3, fun g H4 g0 g1 B4 k4 => ?_⟩⟩⟩
        obtain ⟨j, rfl⟩ : ∃ j : Nat, g = (j : Int) := ⟨g.toNat, by omega⟩
        have hjv : j < vs3.length := by omega
        have ef4 := k4 _ _ ef3 (nn fa fl)
        have eD4 := k4 _ _ eD3 (nn Da Dl)
        have t4 := B3.tup k4
        have pp4 := Paired.tl PlR.st t4 pp3
        have qq4 := Paired.tl PlR.st t4 qq3
        obtain ⟨pj, hpj, rj⟩ := P2.get pp4 (List.getElem?_eq_getElem hjv)
        have hjp : j < ps3.length := by omega
        have epj : pj = ps3[j] := by rw [List.getElem?_eq_getElem hjp] at hpj; injection hpj with z; exact z.symm
        subst epj
        refine ⟨f, vs3, _, j, vs3[j], rfl, rfl, ef4, by omega, by omega, seqIx hjv, List.getElem?_eq_getElem hjv, ?_⟩
        have t5 : TupLe H4 (upd H4 f (.lst (vs3.eraseIdx j))) := (TupLe.refl _).list ef4
        have eD5 : upd H4 f (.lst (vs3.eraseIdx j)) D = some (.lst ws3) := up eD4 Df
        have t6 : TupLe (upd H4 f (.lst (vs3.eraseIdx j))) (upd (upd H4 f (.lst (vs3.eraseIdx j))) D (.lst (ws3 ++ [vs3[j]]))) := (TupLe.refl _).list eD5
        have t46 := t5.trans t6
        refine ⟨ws3, eD5, szlt (by omega), vs3.eraseIdx j, ps3.eraseIdx j, ws3 ++ [vs3[j]], qs3 ++ [ps3[j]], up upd_same Df.symm, Paired.tl PlR.st t46 (P2.erase j pp4), upd_same, Paired.tl PlR.st t46 (P2.app qq4 (P2.one rj)), by rw [List.length_eraseIdx_of_lt hjp]; omega, by simp [lq3], fun p hp => f3 p (List.mem_of_mem_eraseIdx hp), fun p hp => ?_, ?_, (B4.keep (fun o e => up e fa.symm) (fun o e => up e fl.symm)).keep (fun o e => up e Da.symm) (fun o e => up e Dl.symm), ((k3.trans k4).mut hf).mut hD0⟩
        · rcases List.mem_append.mp hp with hp | hp
          · exact g3 p hp
          · rw [List.mem_singleton.mp hp]
            exact f3 _ (List.getElem_mem hjp)
        · rw [← runsL_app] at pm3 ⊢
          refine List.Perm.trans (runsL_perm ?_) pm3
          have e1 : (ps3.eraseIdx j ++ (qs3 ++ [ps3[j]])).Perm (ps3[j] :: (ps3.eraseIdx j ++ qs3)) := by
            rw [← List.append_assoc]
            exact List.perm_append_comm
          exact e1.trans (List.Perm.append_right qs3 (erase_perm hjp))
      · rintro H3 ⟨vs3, ps3, ws3, qs3, ef3, pp3, eD3, qq3, l3, lq3, f3, g3, pm3, B3, k3⟩
        have lv3 := pp3.length
        have lw3 := qq3.length
        refine ⟨_, rfl, .inl ⟨rfl, _, SqL.of ef3⟩, _, rfl, _, rfl, lenL ef3 rfl ⟨_, _, rfl, rfl, a, l, _, rfl, rfl, by omega, by omega, B3, fun g H4 g0 g1 B4 k4 => ?_⟩⟩
        obtain ⟨j, rfl⟩ : ∃ j : Nat, g = (j : Int) := ⟨g.toNat, by omega⟩
        have ef4 := k4 _ _ ef3 (nn fa fl)
        have eD4 := k4 _ _ eD3 (nn Da Dl)
        have t4 := B3.tup k4
        have pp4 := Paired.tl PlR.st t4 pp3
        have qq4 := Paired.tl PlR.st t4 qq3
        refine ⟨_, rfl, D, ws3, rfl, .inl ⟨SqL.of eD4, fun t ht => ?_⟩⟩
        have s5 : Same H4 (upd H4 t (.tup ws3)) := Rs.Same.new ht
        have et : upd H4 t (.tup ws3) t = some (.tup ws3) := upd_same
        have k05 := ((k3.trans k4).new (o := .tup ws3) ht)
        generalize upd H4 t (.tup ws3) = H5 at s5 et k05 ⊢
        have ef5 := s5 _ _ ef4
        refine ⟨f, vs3, _, .ref t, rfl, rfl, ef5, szlt (by omega), by omega, by omega, ?_⟩
        have t6 : TupLe H5 (upd H5 f (.lst (vs3.take ((j : Int)).toNat ++ [V.ref t] ++ vs3.drop ((j : Int)).toNat))) := (TupLe.refl _).list ef5
        have t46 := (TupLe.same s5).trans t6
        have hj : (j : Int).toNat = j := by omega
        rw [hj] at t6 t46 ⊢
        have nodefit : (Pl.node qs3).fits w = true := by
          rw [Pl.fits, Pl.fitsL_all]
          simp only [Bool.and_eq_true, decide_eq_true_eq, List.all_eq_true]
          exact ⟨⟨by omega, by omega⟩, g3⟩
        have len : (ps3.take j ++ [Pl.node qs3] ++ ps3.drop j).length = ps3.length + 1 := by
          rw [List.length_append, List.length_append, List.length_take, List.length_drop, List.length_singleton]
          omega
        refine ⟨_, ps3.take j ++ [Pl.node qs3] ++ ps3.drop j, _, _, _, by omega, rfl, upd_same, P2.app (P2.app (Paired.tl PlR.st t46 (P2.take j pp4)) (P2.one (PlR.node (t6 _ _ et) (Paired.tl PlR.st t46 qq4)))) (Paired.tl PlR.st t46 (P2.drop j pp4)), by omega, by omega, fun p hp => ?_, ?_, (B4.same s5).keep (fun o e => up e fa.symm) (fun o e => up e fl.symm), k05.mut hf⟩
        · rcases List.mem_append.mp hp with hp | hp
          · rcases List.mem_append.mp hp with hp | hp
            · exact f3 p (List.mem_of_mem_take hp)
            · rw [List.mem_singleton.mp hp]
              exact nodefit
          · exact f3 p (List.mem_of_mem_drop hp)
        · refine List.Perm.trans ?_ pm3
          have e1 : (ps3.take j ++ [Pl.node qs3] ++ ps3.drop j).Perm (ps3 ++ [Pl.node qs3]) := by
            have : (ps3.take j ++ [Pl.node qs3] ++ ps3.drop j).Perm (ps3.take j ++ (ps3.drop j ++ [Pl.node qs3])) := by
              rw [List.append_assoc]
              exact List.Perm.append_left _ List.perm_append_comm
            rw [← List.append_assoc, List.take_append_drop] at this
            exact this
          have e2 := runsL_perm e1
          rw [runsL_app ps3] at e2
          have e3 : Pl.runsL [Pl.node qs3] = Pl.runsL qs3 := by
            rw [Pl.runsL, Pl.runsL, Pl.runs, List.append_nil]
          rw [e3] at e2
          exact e2
    · rw [decide_eq_false (show ¬ (1 : Int) < ((vs.length : Nat) : Int) by omega)]
      match ps, pp, p1, hgt, fit, pm with
      | [p], .cons (a := v) hp .nil, _, _, fit, pm =>
        refine ⟨_, rfl, ixL ef (j := 0) rfl rfl ?_⟩
        exact k v p H1 hp (fit p (by simp)) (by simpa [Pl.runsL] using pm) B1 k1
      | p :: q :: r, _, _, hgt, _, _ => exact absurd (by simp) hgt
end Rs

namespace Rs
open PySem PySem.Spec PyProof.Rows L2
open LamX
abbrev N_law_class : List Str := ["_law_e", "_law_kinds", "_law_words"]
abbrev P_law_class : List Str := ["_law_e"]
def t_law_class (K : PySem.W.Frag) (D a : Addr) (d : Option Addr) : TS := (tSeq (tAsg (tLst (tCons (tCB (rIsX K D a d) (tCons (tVar 0) (tConsC (.ref (He.ga K "BadKinds")) tNil))) (tCons (tCB (rIsX K D a d) (tCons (tVar 0) (tConsC (.ref (He.ga K "BadOrder")) tNil))) (tCons (tCB (rIsX K D a d) (tCons (tVar 0) (tConsC (.ref (He.ga K "BadRows")) tNil))) (tCons (tCB (rIsX K D a d) (tCons (tVar 0) (tConsC (.ref (He.ga K "BadRuns")) tNil))) tNil))))) (gName 1))
  (tSeq (tAsg (tOp rCat (tVar 1) (tLst (tCons (tCB (rIsX K D a d) (tCons (tVar 0) (tConsC (.ref (He.ga K "BadRoom")) tNil))) (tCons (tCB (rIsX K D a d) (tCons (tVar 0) (tConsC (.ref (He.ga K "BadLengths")) tNil))) (tCons (tCB (rIsX K D a d) (tCons (tVar 0) (tConsC (.ref (He.ga K "BadPlan")) tNil))) (tCons (tCB (rIsX K D a d) (tCons (tVar 0) (tConsC (.ref (He.ga K "BadPaper")) tNil))) tNil)))))) (gName 1))
   (tSeq (tAsg (tOp rCat (tVar 1) (tLst (tCons (tCB (rIsX K D a d) (tCons (tVar 0) (tConsC (.ref (He.ga K "BadCount")) tNil))) (tCons (tCB (rIsX K D a d) (tCons (tVar 0) (tConsC (.ref (He.ga K "BadBlock")) tNil))) (tCons (tCB (rIsX K D a d) (tCons (tVar 0) (tConsC (.ref (He.ga K "Stopped")) tNil))) (tCons (tCB (rIsX K D a d) (tCons (tVar 0) (tConsC (.ref (He.ga K "Shut")) tNil))) tNil)))))) (gName 1))
    (tSeq (tAsg (tOp rCat (tVar 1) (tLst (tCons (tCB (rIsX K D a d) (tCons (tVar 0) (tConsC (.ref (He.ga K "NotYet")) tNil))) (tCons (tCB (rIsX K D a d) (tCons (tVar 0) (tConsC (.ref (He.ga K "Empty")) tNil))) (tCons (tCB (rIsX K D a d) (tCons (tVar 0) (tConsC (.ref (He.ga K "BadText")) tNil))) tNil))))) (gName 1))
     (tSeq (tAsg (tLst (tConsC (.str "BadKinds") (tConsC (.str "BadOrder") (tConsC (.str "BadRows") (tConsC (.str "BadRuns") (tConsC (.str "BadRoom") (tConsC (.str "BadLengths") (tConsC (.str "BadPlan") (tConsC (.str "BadPaper") (tConsC (.str "BadCount") tNil)))))))))) (gName 2))
      (tSeq (tAsg (tOp rCat (tVar 2) (tLst (tConsC (.str "BadBlock") (tConsC (.str "Stopped") (tConsC (.str "Shut") (tConsC (.str "NotYet") (tConsC (.str "Empty") (tConsC (.str "BadText") tNil)))))))) (gName 2))
       (tRet (tIf (tAnd (tTest (tOpC rEq (tBM K "list" (xCount K) (tVar 1) (tConsC (.bl true) tNil)) (.int 1))) (tB (tCB (rIsX K D a d) (tCons (tVar 0) (tConsC (.ty "ValueError") tNil))))) (tOp (rIxL K) (tVar 2) (tBM K "list" (rIndex K) (tVar 1) (tConsC (.bl true) tNil))) (tC (.str ""))))))))))
theorem DictOk.same {d : Option Addr} {H H' : Hp} (h : DictOk d H) (s : Same H H') : DictOk d H' := fun dd e => let ⟨fs, q⟩ := h dd e; ⟨fs, s _ _ q⟩
def truths (x : Str) : List V := errNames.map fun y => V.bl (decide (x = y))
theorem names_nd : errNames.Nodup := by decide +kernel
theorem truths_flat (x : Str) : (truths x).all flatV = true := by
  unfold truths
  rw [List.all_map]
  exact List.all_eq_true.mpr fun _ _ => rfl
theorem eqV_t (b : Bool) : eqV (.bl b) (.bl true) = b := by cases b <;> rfl
theorem truths_one {x : Str} : ∀ {l : List Str}, x ∈ l → l.Nodup → (l.map fun y => V.bl (decide (x = y))).countP (fun z => eqV z (.bl true)) = 1
  | y :: l, h, nd => by
    rw [List.nodup_cons] at nd
    rw [List.map_cons, List.countP_cons, eqV_t]
    by_cases e : x = y
    · have z : (l.map fun y => V.bl (decide (x = y))).countP (fun z => eqV z (.bl true)) = 0 := by
        rw [List.countP_eq_zero]
        intro v hv
        obtain ⟨u, hu, rfl⟩ := List.mem_map.mp hv
        rw [eqV_t, decide_eq_true_eq]
        intro q
        exact nd.1 (by rw [← e, q]; exact hu)
      rw [z, decide_eq_true e]
      rfl
    · rw [truths_one ((List.mem_cons.mp h).resolve_left e) nd.2, decide_eq_false e]
      rfl
theorem does_law_class {K : PySem.W.Frag} {x : Str} {a : Addr} {d : Option Addr} {H : Hp} {Q : VK} (E : ErrIs K x) (dk : DictOk d H) (k : ∀ H', Same H H' → Q (.str x) H') : t_law_class K (He.ga K x) a d { nx := fun _ H' => Q .non H', rt := Q } (start N_law_class [.ref a]) H := by
  refine ⟨_, rfl, _, .ref (He.ga K "BadKinds"), _, rfl, fun _ h => h, E.k _ (by decide +kernel), dk, _, rfl, _, .ref (He.ga K "BadOrder"), _, rfl, fun _ h => h, E.k _ (by decide +kernel), dk, _, rfl, _, .ref (He.ga K "BadRows"), _, rfl, fun _ h => h, E.k _ (by decide +kernel), dk, _, rfl, _, .ref (He.ga K "BadRuns"), _, rfl, fun _ h => h, E.k _ (by decide +kernel), dk, szle (by show 4 ≤ 100000; decide), fun l1 h1 => ?_⟩
  generalize gX : upd _ l1 _ = H1
  have s1 := newS h1 gX
  have e1 := newE gX
  clear gX
  have s01 : Same H H1 := s1
  refine ⟨_, rfl, _, rfl, _, .ref (He.ga K "BadRoom"), _, rfl, fun _ h => h, E.k _ (by decide +kernel), (dk.same s01), _, rfl, _, .ref (He.ga K "BadLengths"), _, rfl, fun _ h => h, E.k _ (by decide +kernel), (dk.same s01), _, rfl, _, .ref (He.ga K "BadPlan"), _, rfl, fun _ h => h, E.k _ (by decide +kernel), (dk.same s01), _, rfl, _, .ref (He.ga K "BadPaper"), _, rfl, fun _ h => h, E.k _ (by decide +kernel), (dk.same s01), szle (by show 4 ≤ 100000; decide), fun l2 h2 => ?_⟩
  generalize gX : upd _ l2 _ = H2
  have s2 := newS h2 gX
  have e2 := newE gX
  clear gX
  refine ⟨l1, l2, [V.bl (decide (x = "BadKinds")), V.bl (decide (x = "BadOrder")), V.bl (decide (x = "BadRows")), V.bl (decide (x = "BadRuns"))], [V.bl (decide (x = "BadRoom")), V.bl (decide (x = "BadLengths")), V.bl (decide (x = "BadPlan")), V.bl (decide (x = "BadPaper"))], rfl, rfl, s2 _ _ e1, e2, szle (by show 4 + 4 ≤ 100000; decide), fun l3 h3 => ?_⟩
  generalize gX : upd _ l3 _ = H3
  have s3 := newS h3 gX
  have e3 := newE gX
  clear gX
  have s03 : Same H H3 := (s01.trans s2).trans s3
  refine ⟨_, rfl, _, rfl, _, .ref (He.ga K "BadCount"), _, rfl, fun _ h => h, E.k _ (by decide +kernel), (dk.same s03), _, rfl, _, .ref (He.ga K "BadBlock"), _, rfl, fun _ h => h, E.k _ (by decide +kernel), (dk.same s03), _, rfl, _, .ref (He.ga K "Stopped"), _, rfl, fun _ h => h, E.k _ (by decide +kernel), (dk.same s03), _, rfl, _, .ref (He.ga K "Shut"), _, rfl, fun _ h => h, E.k _ (by decide +kernel), (dk.same s03), szle (by show 4 ≤ 100000; decide), fun l4 h4 => ?_⟩
  generalize gX : upd _ l4 _ = H4
  have s4 := newS h4 gX
  have e4 := newE gX
  clear gX
  refine ⟨l3, l4, [V.bl (decide (x = "BadKinds")), V.bl (decide (x = "BadOrder")), V.bl (decide (x = "BadRows")), V.bl (decide (x = "BadRuns")), V.bl (decide (x = "BadRoom")), V.bl (decide (x = "BadLengths")), V.bl (decide (x = "BadPlan")), V.bl (decide (x = "BadPaper"))], [V.bl (decide (x = "BadCount")), V.bl (decide (x = "BadBlock")), V.bl (decide (x = "Stopped")), V.bl (decide (x = "Shut"))], rfl, rfl, s4 _ _ e3, e4, szle (by show 8 + 4 ≤ 100000; decide), fun l5 h5 => ?_⟩
  generalize gX : upd _ l5 _ = H5
  have s5 := newS h5 gX
  have e5 := newE gX
  clear gX
  have s05 : Same H H5 := (s03.trans s4).trans s5
  refine ⟨_, rfl, _, rfl, _, .ref (He.ga K "NotYet"), _, rfl, fun _ h => h, E.k _ (by decide +kernel), (dk.same s05), _, rfl, _, .ref (He.ga K "Empty"), _, rfl, fun _ h => h, E.k _ (by decide +kernel), (dk.same s05), _, rfl, _, .ref (He.ga K "BadText"), _, rfl, fun _ h => h, E.k _ (by decide +kernel), (dk.same s05), szle (by show 3 ≤ 100000; decide), fun l6 h6 => ?_⟩
  generalize gX : upd _ l6 _ = H6
  have s6 := newS h6 gX
  have e6 := newE gX
  clear gX
  refine ⟨l5, l6, [V.bl (decide (x = "BadKinds")), V.bl (decide (x = "BadOrder")), V.bl (decide (x = "BadRows")), V.bl (decide (x = "BadRuns")), V.bl (decide (x = "BadRoom")), V.bl (decide (x = "BadLengths")), V.bl (decide (x = "BadPlan")), V.bl (decide (x = "BadPaper")), V.bl (decide (x = "BadCount")), V.bl (decide (x = "BadBlock")), V.bl (decide (x = "Stopped")), V.bl (decide (x = "Shut"))], [V.bl (decide (x = "NotYet")), V.bl (decide (x = "Empty")), V.bl (decide (x = "BadText"))], rfl, rfl, s6 _ _ e5, e6, szle (by show 12 + 3 ≤ 100000; decide), fun l7 h7 => ?_⟩
  generalize gX : upd _ l7 _ = H7
  have s7 := newS h7 gX
  have e7 := newE gX
  clear gX
  have s07 : Same H H7 := (s05.trans s6).trans s7
  refine ⟨szle (by show 9 ≤ 100000; decide), fun w1 g1 => ?_⟩
  generalize gX : upd _ w1 _ = G1
  have t1 := newS g1 gX
  have f1 := newE gX
  clear gX
  refine ⟨_, rfl, szle (by show 6 ≤ 100000; decide), fun w2 g2 => ?_⟩
  generalize gX : upd _ w2 _ = G2
  have t2 := newS g2 gX
  have f2 := newE gX
  clear gX
  refine ⟨w1, w2, _, _, rfl, rfl, t2 _ _ f1, f2, szle (by show 9 + 6 ≤ 100000; decide), fun w3 g3 => ?_⟩
  generalize gX : upd _ w3 _ = G3
  have t3 := newS g3 gX
  have f3 := newE gX
  clear gX
  have t0 : Same H7 G3 := (t1.trans t2).trans t3
  have eK : G3 l7 = some (.lst (truths x)) := t0 _ _ e7
  have eW : G3 w3 = some (.lst (errNames.map V.str)) := f3
  have sK : Same H G3 := s07.trans t0
  refine ⟨_, rfl, .inl ⟨rfl, _, SqL.of eK⟩, l7, truths x, .bl true, rfl, rfl, SqL.of eK, rfl, truths_flat x, rfl, _, rfl, ?_⟩
  rw [show (truths x).countP (fun z => eqV z (.bl true)) = 1 from truths_one E.mem names_nd]
  refine ⟨_, rfl, _, .type "ValueError", _, rfl, fun _ h => h, E.v, dk.same sK, ?_⟩
  obtain ⟨j, hj, ej⟩ := List.getElem_of_mem E.mem
  have hj2 : errNames[j]? = some x := by rw [List.getElem?_eq_getElem hj, ej]
  refine ⟨_, rfl, _, rfl, _, rfl, .inl ⟨rfl, _, SqL.of eK⟩, l7, truths x, .bl true, j, .bl true, rfl, rfl, SqL.of eK, rfl, truths_flat x, ?_, rfl, fun m z hm hz => ?_, ixL eW rfl (by rw [List.getElem?_map, hj2]; rfl) (k _ sK)⟩
  · unfold truths
    rw [List.getElem?_map, hj2]
    show some (V.bl (decide (x = x))) = _
    rw [decide_eq_true rfl]
  · unfold truths at hz
    rw [List.getElem?_map] at hz
    cases q : errNames[m]? with
    | none => rw [q] at hz; cases hz
    | some y =>
      rw [q] at hz
      cases hz
      rw [eqV_t]
      refine decide_eq_false fun z => ?_
      subst z
      have := (List.getElem?_inj (List.getElem?_eq_some_iff.mp q).1 names_nd).mp (q.trans hj2.symm)
      omega
abbrev N_law_told : List Str := ["_law_work", "_law_e", "_law_word"]
abbrev P_law_told : List Str := ["_law_work"]
def t_law_told (K : PySem.W.Frag) (a : Addr) (cls : Value) (d : Option Addr) : TS := (tSeq (tAsg (tWarm K 1 a cls d N_law_class (t_law_class K)) (gName 2))
  (tSeq (tIfS (tTest (tOpC rEq (tVar 2) (.str "BadRuns"))) (tRet (tTup (tCons (tVar 2) (tCons (tErrF K 1 a cls d "number") tNil)))) tNext)
   (tRet (tTup (tCons (tVar 2) (tCons (tIf (tTest (tOp (rIn K false) (tVar 2) (tTup (tConsC (.str "BadRows") (tConsC (.str "BadText") tNil))))) (tErrF K 1 a cls d "place") (tC (.int 0))) tNil))))))
theorem set1 {σ : L2.St} {v : Option V} (h : σ.length = 3) : ∃ x0 x2, σ.set 1 v = [x0, v, x2] := by
  match σ, h with
  | [x0, _, x2], _ => exact ⟨x0, x2, rfl⟩
theorem ErrNo.ok {K : PySem.W.Frag} {x : Str} {d : Option Addr} {H : Hp} {v : V} (h : ErrNo K x d H v) : DictOk d H := by
  unfold ErrNo at h
  intro dd e
  split at h
  · obtain ⟨d2, fs, _, _, e2, q, _⟩ := h
    rw [e2] at e
    cases e
    exact ⟨fs, q⟩
  · rw [h.1] at e
    cases e
theorem ErrNo.same {K : PySem.W.Frag} {x : Str} {d : Option Addr} {H H' : Hp} {v : V} (h : ErrNo K x d H v) (s : Same H H') : ErrNo K x d H' v := by
  unfold ErrNo at h ⊢
  split at h
  · rename_i c
    rw [if_pos c]
    obtain ⟨dd, fs, a, b, e, q, l⟩ := h
    exact ⟨dd, fs, a, b, e, s _ _ q, l⟩
  · rename_i c
    rw [if_neg c]
    exact h
theorem two_words {x : Str} : inV (.str x) [.str "BadRows", .str "BadText"] = decide (x = "BadRows" ∨ x = "BadText") := by
  unfold inV
  rw [List.any_cons, List.any_cons, List.any_nil, Bool.or_false]
  show (("BadRows" : Str) == x || ("BadText" : Str) == x) = _
  by_cases c : x = "BadRows"
  · subst c
    simp
  · by_cases c2 : x = "BadText"
    · subst c2
      simp
    · simp [c, c2, Ne.symm c, Ne.symm c2, beq_eq_false_iff_ne.mpr (Ne.symm c), beq_eq_false_iff_ne.mpr (Ne.symm c2)]
theorem pure_law_told {K : PySem.W.Frag} : ∀ (a : Addr) (cls : Value) (d : Option Addr) (H : Hp) (Q : VK) (D : Ends) (σ : L2.St), rErr K cls d H Q → D.rt = Q → σ.length = N_law_told.length → t_law_told K a cls d D (σ.set 1 (some (.ref a))) H := by
  intro a cls d H Q D σ h eD hl
  obtain ⟨x, v, rfl, E, no, k⟩ := h
  obtain ⟨x0, x2, eσ⟩ := set1 (v := some (.ref a)) hl
  rw [eσ]
  refine ⟨rfl, He.ga K x, rfl, E.c, does_law_class E no.ok fun H1 s1 => ?_⟩
  have no1 := no.same s1
  refine ⟨_, rfl, rfl, _, rfl, ?_⟩
  unfold ErrNo at no1
  by_cases c1 : x = "BadRuns"
  · rw [if_pos (.inl c1), if_pos c1] at no1
    obtain ⟨dd, fs, hx, hn, ed, eH, l⟩ := no1
    rw [decide_eq_true (show V.str x = V.str "BadRuns" by rw [c1])]
    refine ⟨_, rfl, rfl, _, dd, fs, v, rfl, hx, hn, ed, eH, l, szle (by show 2 ≤ 100000; decide), fun q hq => ?_⟩
    generalize gX : upd _ q _ = H2
    have s2 := newS hq gX
    have e2 := newE gX
    clear gX
    rw [eD]
    exact k q H2 (s1.free hq) (s1.trans s2) e2
  rw [decide_eq_false (show ¬ V.str x = V.str "BadRuns" from fun z => c1 (V.str.inj z))]
  refine ⟨_, rfl, _, rfl, szle (by show 2 ≤ 100000; decide), fun q hq => ?_⟩
  have q0 := s1.free hq
  generalize gX : upd _ q _ = H2
  have s2 := newS hq gX
  have e2 := newE gX
  clear gX
  refine ⟨q, _, rfl, .inr (SqT.of e2), rfl, rfl, _, rfl, ?_⟩
  rw [if_neg (by decide), two_words]
  by_cases c2 : x = "BadRows" ∨ x = "BadText"
  · rw [if_pos (.inr c2), if_neg c1] at no1
    obtain ⟨dd, fs, hx, hn, ed, eH, l⟩ := no1
    rw [decide_eq_true c2]
    refine ⟨rfl, _, dd, fs, v, rfl, hx, hn, ed, s2 _ _ eH, l, szle (by show 2 ≤ 100000; decide), fun r hr => ?_⟩
    have r0 := (s1.trans s2).free hr
    generalize gX : upd _ r _ = H3
    have s3 := newS hr gX
    have e3 := newE gX
    clear gX
    rw [eD]
    exact k r H3 r0 ((s1.trans s2).trans s3) e3
  · rw [if_neg (fun z => z.elim c1 c2)] at no1
    obtain ⟨_, rfl⟩ := no1
    rw [decide_eq_false c2]
    refine ⟨szle (by show 2 ≤ 100000; decide), fun r hr => ?_⟩
    have r0 := (s1.trans s2).free hr
    generalize gX : upd _ r _ = H3
    have s3 := newS hr gX
    have e3 := newE gX
    clear gX
    rw [eD]
    exact k r H3 r0 ((s1.trans s2).trans s3) e3
end Rs

namespace Rs
open PySem PySem.Spec PyProof.Rows L2
open LamX
def ButN (F : List Addr) (H H' : Hp) : Prop := ∀ x u, H x = some u → (∀ ps, u ≠ .tbl ps) → x ∉ F → H' x = some u
theorem ButN.of {F : List Addr} {H H' : Hp} (k : But F H H') : ButN F H H' := fun x u e _ n => k x u e n
theorem ButN.ext {F : List Addr} {H H' : Hp} (k : ExtN H H') : ButN F H H' := fun x u e n _ => k x u e n
theorem ButN.trans {F : List Addr} {H H1 H2 : Hp} (a : ButN F H H1) (b : ButN F H1 H2) : ButN F H H2 := fun x u e n m => b x u (a x u e n m) n m
theorem ButN.wide {F F' : List Addr} {H H' : Hp} (k : ButN F H H') (s : ∀ x ∈ F, x ∈ F') : ButN F' H H' := fun x u e n m => k x u e n fun z => m (s x z)
def Free (F : List Addr) (H : Hp) : Prop := ∀ x ∈ F, ∀ u, H x = some u → (∀ ps, u ≠ .tbl ps) ∧ ∀ c q, u ≠ CodeO c q
theorem tabs_but {T : List (Addr × Str)} {F : List Addr} {H H' : Hp} (t : Tabs T H) (k : But F H H') (f : Free F H) : Tabs T H' := fun p hp => by
  obtain ⟨ps, h1, h2, h3⟩ := t p hp
  refine ⟨ps, k _ _ h1 fun z => (f _ z _ h1).1 ps rfl, h2, fun pos cv hc => ?_⟩
  obtain ⟨c, e1, e2⟩ := h3 pos cv hc
  exact ⟨c, e1, k _ _ e2 fun z => (f _ z _ e2).2 _ _ rfl⟩
theorem tabs_same {T : List (Addr × Str)} {H H' : Hp} (t : Tabs T H) (s : Same H H') : Tabs T H' := t.ext s
theorem free_lst {vs : List V} : (∀ ps, HO.lst vs ≠ .tbl ps) ∧ ∀ c q, HO.lst vs ≠ CodeO c q := ⟨fun _ z => (by cases z), fun _ _ z => (by unfold CodeO at z; cases z)⟩
section
variable {K : PySem.W.Frag} {H H' : Hp} {p q a bl : Addr} {F G : List Addr}
theorem Box.free (h : Box H a bl) : Free [a, bl] H := fun x hx u e => by
  obtain ⟨ns, st, e1, e2, _⟩ := h.ex
  simp only [List.mem_cons, List.not_mem_nil, or_false] at hx
  rcases hx with rfl | rfl
  · rw [e1] at e; cases e; exact free_lst
  · rw [e2] at e; cases e; exact free_lst
theorem ButN.tup (k : ButN F H H') (n : ∀ x ∈ F, ∀ vs, H x ≠ some (.tup vs)) : TupLe H H' := fun c xs e => k c _ e (fun _ z => by cases z) fun z => n c z xs e
theorem Box.keepN {Z : List Addr} (h : Box H a bl) (k : ButN Z H H') (n : ∀ x ∈ [a, bl], x ∉ Z) : Box H' a bl := h.keep (fun o e => k a o e (h.free a (by simp) o e).1 (n a (by simp))) fun o e => k bl o e (h.free bl (by simp) o e).1 (n bl (by simp))
end
theorem extN_tup {H H' : Hp} (k : ExtN H H') : TupLe H H' := fun c xs e => k c _ e fun _ z => by cases z
theorem rErr_plain {K : PySem.W.Frag} {x : Str} {H : Hp} {Q : VK} (E : ErrIs K x) (hx : ¬ (x = "BadRuns" ∨ x = "BadRows" ∨ x = "BadText")) (k : ∀ u H', H u = none → Same H H' → H' u = some (.tup [.str x, .int 0]) → Q (.ref u) H') : rErr K (.ref (He.ga K x)) none H Q :=
  ⟨x, .int 0, rfl, E, by unfold ErrNo; rw [if_neg hx]; exact ⟨rfl, rfl⟩, fun u H' hu s e => k u H' hu (fun b o q => s b o q) e⟩
end Rs

namespace Rs
open PySem PySem.Spec PyProof.Rows L2
open LamX
abbrev N_law_all : List Str := ["_law_works", "_law_due", "_law_work"]
abbrev P_law_all : List Str := ["_law_works", "_law_due"]
def t_law_all (K : PySem.W.Frag) (LS : List LamF) (tt : Nat → XK → Hp → VK → Prop) : TS := (tRet (tOp (xEqE K) (tLc (iList K (tVar 0)) (gName 2) (tNot (tB (tCall (sp_law_alike K) [] E0 (tCons (tToldV K LS tt 2) (tCons (tVar 1) tNil))))) (tVar 2) [2]) (tLst tNil)))
theorem all_good {K : PySem.W.Frag} {LS : List LamF} {tt : Nat → XK → Hp → VK → Prop} {p : Addr} {dv : V} {fs : List Addr} {H : Hp} {Q : VK} (I : Addr → Nat → Hp → Prop) (i0 : ∀ D, H D = none → I D 0 (upd H D (.lst [])))
    (sq0 : SqL K H p (fs.map V.ref)) (sq : ∀ D j H', I D j H' → SqL K H' p (fs.map V.ref)) (dd : ∀ D H', I D fs.length H' → H' D = some (.lst []))
    (step : ∀ D j f H', fs[j]? = some f → I D j H' → ∃ n, LamN LS n f H' ∧ ∀ Qn : VK, (∀ v H'', (∀ Q E, Q (.bl true) H'' → sp_law_alike K [v, dv] H'' Q E) → I D (j + 1) H'' → Qn v H'') → tt n (fun cls d H'' => rErr K cls d H'' Qn) H' Qn)
    (fin : ∀ D e H', I D fs.length H' → H' e = none → Q (.bl true) (upd H' e (.lst []))) : (t_law_all K LS tt) { nx := fun _ H' => Q .non H', rt := Q } (start N_law_all [.ref p, dv]) H := by
  refine ⟨_, rfl, p, rfl, ⟨_, sq0⟩, fun D hD => ?_⟩
  refine lc_list (K := K) (a := p) (xs := fs.map V.ref) (fun j H' => I D j H') (i0 D hD) (fun j H' _ h => sq D j H' h) ?_ ?_
  · intro j v H' hj hI
    rw [List.getElem?_map] at hj
    cases hf : fs[j]? with
    | none =>
      rw [hf] at hj
      cases hj
    | some f =>
      rw [hf] at hj
      cases hj
      obtain ⟨n, hL, ht⟩ := step D j f H' hf hI
      refine ⟨rfl, f, n, rfl, hL, ht _ fun v H'' al hi => ⟨dv, rfl, ?_⟩⟩
      dsimp only [tNil, List.append_nil]
      exact al _ _ ⟨true, rfl, hi⟩
  · intro H' hI
    rw [List.length_map] at hI
    exact ⟨sz0, fun e he => eqE (dd D H' hI) he (b := true) rfl (fin D e H' hI he)⟩
end Rs

namespace Rs
open PySem PySem.Spec PyProof.Rows L2
open LamX
theorem extS {H H' : Hp} (s : Same H H') : ExtN H H' := fun b o e _ => s b o e
theorem Lst.extN {α : Type} {R : Rel α} (st : Stable R) {H H' : Hp} {x : Addr} {xs : List α} (e : ExtN H H') (L : Lst R H x xs) : Lst R H' x xs := let ⟨vs, a, b⟩ := L; ⟨vs, e _ _ a fun _ z => (by cases z), Paired.tl st (extN_tup e) b⟩
theorem Box.extN {H H' : Hp} {a l : Addr} (B : Box H a l) (e : ExtN H H') : Box H' a l := B.keepN (ButN.ext (F := []) e) fun _ _ z => nomatch z
theorem told_errs {K : PySem.W.Frag} {LS : List LamF} {l : List (Nat × (XK → TE))} {σ : L2.St} {fs : List Addr} {p u : Addr} {x : Str} {n : Int} {H : Hp} {Q : VK} (ep : H p = some (.lst (fs.map V.ref))) (eu : H u = some (.tup [.str x, .int n]))
    (bodies : ∀ f ∈ fs, ∃ j t, l.lookup j = some t ∧ LamN LS j f H ∧ ∀ H' (Qn : VK), Same H H' → (∀ u' H1, Same H' H1 → H1 u' = some (.tup [.str x, .int n]) → Qn (.ref u') H1) → t (fun cls d H'' => rErr K cls d H'' Qn) σ H' Qn)
    (fin : ∀ H', Same H H' → Q (.bl true) H') : (t_law_all K LS (fun j E => lamT l j E σ)) { nx := fun _ H' => Q .non H', rt := Q } (start N_law_all [.ref p, .ref u]) H := by
  refine all_good (fs := fs) (fun D j H' => H' D = some (.lst []) ∧ Same H H') (fun D hD => ⟨upd_same, Rs.Same.new hD⟩) (SqL.of ep) (fun D j H' h => SqL.of (h.2 _ _ ep)) (fun D H' h => h.1) ?_ (fun D e H' h he => fin _ (h.2.trans (Rs.Same.new he)))
  rintro D i g H' hi ⟨hd, s⟩
  obtain ⟨j, t, hl, hf, body⟩ := bodies g (List.mem_of_getElem? hi)
  refine ⟨j, hf.ext (extS s), fun Qn hQ => ⟨t, hl, body H' Qn s fun u' H2 s2 e => ?_⟩⟩
  have s02 := s.trans s2
  refine hQ _ _ (fun Q E q => ⟨.tuple [.str x, .int n], ?_, .tup (SqT.of e) (.cons (.str _) (.cons (.int _) .nil)), .tup (SqT.of (s02 _ _ eu)) (.cons (.str _) (.cons (.int _) .nil)), q⟩) ⟨s2 _ _ hd, s02⟩
  refine Rs.okA.to (n := 2) ⟨by show 2 ≤ 100000; decide, fun d hd => ?_⟩ (by decide)
  simp only [List.mem_cons, List.not_mem_nil, or_false] at hd
  rcases hd with rfl | rfl <;> exact trivial
end Rs

namespace Rs
open PySem PySem.Spec PyProof.Rows L2
open LamX
theorem LamN.butp {LS : List LamF} {j : Nat} {f p : Addr} {H H' : Hp} {vs : List V} (h : LamN LS j f H) (ep : H p = some (.lst vs)) (k : ∀ b o, b ≠ p → H b = some o → (∀ ps, o ≠ .tbl ps) → H' b = some o) : LamN LS j f H' := by
  obtain ⟨L, c, T, a, b, d, g⟩ := h
  refine ⟨L, c, T, a, k _ _ (fun z => ?_) b (fun _ z => by cases z), k _ _ (fun z => ?_) d codeO_ne, fun n => k _ _ (fun z => ?_) (g n) fun _ z => by cases z⟩
  · rw [z, ep] at b
    cases b
  · rw [z, ep] at d
    unfold CodeO at d
    cases d
  · have := g n
    rw [z, ep] at this
    cases this
def Works (LS : List LamF) (H : Hp) (p : Addr) (js : List Nat) : Prop := ∃ fs : List Addr, H p = some (.lst (fs.map V.ref)) ∧ Paired (fun f j => LamN LS j f H) fs js
theorem Works.same {LS : List LamF} {H H' : Hp} {p : Addr} {js : List Nat} (W : Works LS H p js) (s : Same H H') : Works LS H' p js := by
  obtain ⟨fs, e, q⟩ := W
  exact ⟨fs, s _ _ e, P2.mono (fun _ _ h => h.ext (extS s)) q⟩
theorem worksNew2 {K : PySem.W.Frag} {T : List (Addr × Str)} {LS : List LamF} {i j : Nat} {σ : L2.St} {H : Hp} {Q : VK} (TT : Tabs T H) (k : ∀ p H2 H', ExtN H H2 → Tabs T H2 → H2 p = none → Same H2 H' → Works LS H' p [i, j] → Q (.ref p) H') :
    (tLst (tCons (tLamM T LS i) (tCons (tLamM T LS j) tNil))) σ H Q := by
  refine ⟨TT, fun f H1 e1 T1 hf L1 => ⟨T1, fun g H2 e2 T2 hg L2 => ⟨szle (by show 2 ≤ 100000; decide), fun p hp => ?_⟩⟩⟩
  have s3 : Same H2 (upd H2 p (.lst [.ref f, .ref g])) := Rs.Same.new hp
  exact k p H2 _ (e1.trans e2) T2 hp s3 ⟨[f, g], upd_same, .cons (L1.ext (e2.trans (extS s3))) (.cons (L2.ext (extS s3)) .nil)⟩
theorem worksNew3 {K : PySem.W.Frag} {T : List (Addr × Str)} {LS : List LamF} {i j m : Nat} {σ : L2.St} {H : Hp} {Q : VK} (TT : Tabs T H) (k : ∀ p H2 H', ExtN H H2 → Tabs T H2 → H2 p = none → Same H2 H' → Works LS H' p [i, j, m] → Q (.ref p) H') :
    (tLst (tCons (tLamM T LS i) (tCons (tLamM T LS j) (tCons (tLamM T LS m) tNil)))) σ H Q := by
  refine ⟨TT, fun f H1 e1 T1 hf L1 => ⟨T1, fun g H2 e2 T2 hg L2 => ⟨T2, fun h H3 e3 T3 hh L3 => ⟨szle (by show 3 ≤ 100000; decide), fun p hp => ?_⟩⟩⟩⟩
  have s3 : Same H3 (upd H3 p (.lst [.ref f, .ref g, .ref h])) := Rs.Same.new hp
  exact k p H3 _ ((e1.trans e2).trans e3) T3 hp s3 ⟨[f, g, h], upd_same, .cons (L1.ext ((e2.trans e3).trans (extS s3))) (.cons (L2.ext (e3.trans (extS s3))) (.cons (L3.ext (extS s3)) .nil))⟩
theorem worksAdd {K : PySem.W.Frag} {T : List (Addr × Str)} {LS : List LamF} {i j : Nat} {p : Addr} {js : List Nat} {σ : L2.St} {H0 H : Hp} {D : Ends} (TT : Tabs T H) (hσ : σ[i]? = some (some (.ref p))) (hp : H0 p = none) (e : ExtN H0 H) (W : Works LS H p js) (few : js.length ≤ 1000)
    (k : ∀ H', ExtN H0 H' → Tabs T H' → Works LS H' p (js ++ [j]) → D.nx σ H') : (tDrop (tBM K "list" rAppend (tVar i) (tCons (tLamM T LS j) tNil))) D σ H := by
  obtain ⟨fs, ep, q⟩ := W
  have lf := q.length
  refine ⟨_, hσ, .inl ⟨rfl, _, SqL.of ep⟩, TT, fun f H1 e1 T1 hf L1 => ?_⟩
  have ep1 := e1 _ _ ep fun _ z => by cases z
  refine ⟨p, _, _, rfl, rfl, ep1, szlt (by rw [List.length_map]; omega), ?_⟩
  have bk : ∀ b o, b ≠ p → H1 b = some o → (∀ ps, o ≠ .tbl ps) → upd H1 p (.lst (fs.map V.ref ++ [.ref f])) b = some o := fun b o n e _ => by
    rw [upd_ne n]
    exact e
  refine k _ (fun b o h n => ?_) (tabs_but T1 (F := [p]) ((But.refl _ _).put (by simp)) fun z hz u hu => by
    rw [List.mem_singleton.mp hz, ep1] at hu
    cases hu
    exact free_lst) ⟨fs ++ [f], by rw [upd_same, List.map_append]; rfl, P2.app (P2.mono (fun _ _ h => (h.ext e1).butp ep1 bk) q) (P2.one (L1.butp ep1 bk))⟩
  refine bk b o (fun z => ?_) ((e.trans e1) b o h n) n
  rw [z, hp] at h
  cases h
theorem worksDue {K : PySem.W.Frag} {LS : List LamF} {l : List (Nat × (XK → TE))} {js : List Nat} {p : Addr} {x : Str} {n : Int} {σ : L2.St} {H : Hp} {Q : VK} (W : Works LS H p js)
    (bodies : ∀ j ∈ js, ∃ t, l.lookup j = some t ∧ ∀ H' (Qn : VK), Same H H' → (∀ u' H1, Same H' H1 → H1 u' = some (.tup [.str x, .int n]) → Qn (.ref u') H1) → t (fun cls d H'' => rErr K cls d H'' Qn) σ H' Qn)
    (fin : ∀ H', Same H H' → Q (.bl true) H') :
    (tCons (tTup (tConsC (.str x) (tConsC (.int n) tNil))) tNil) σ H fun vs H1 => (V.ref p :: vs).length = 2 ∧ t_law_all K LS (fun j E => lamT l j E σ) { nx := fun _ H' => Q .non H', rt := Q } (L2.start N_law_all (V.ref p :: vs)) H1 := by
  refine ⟨szle (by show 2 ≤ 100000; decide), fun u hu => ⟨rfl, ?_⟩⟩
  have s : Same H (upd H u (.tup [.str x, .int n])) := Rs.Same.new hu
  have eu : upd H u (.tup [.str x, .int n]) u = some (.tup [.str x, .int n]) := upd_same
  obtain ⟨fs, ep, q⟩ := W.same s
  generalize upd H u (.tup [.str x, .int n]) = H2 at s eu ep q ⊢
  refine told_errs (fs := fs) ep eu (fun f hf => ?_) fun H' s' => fin H' (s.trans s')
  obtain ⟨i, hi, e⟩ := List.mem_iff_getElem.mp hf
  obtain ⟨j, hj, hL⟩ := P2.get q (by rw [List.getElem?_eq_getElem hi, e])
  obtain ⟨t, hl, body⟩ := bodies j (List.mem_of_getElem? hj)
  exact ⟨j, t, hl, hL, fun H' Qn s' => body H' Qn (s.trans s')⟩
theorem worksAll {K : PySem.W.Frag} {LS : List LamF} {l : List (Nat × (XK → TE))} {js : List Nat} {i : Nat} {p : Addr} {x : Str} {n : Int} {σ : L2.St} {H : Hp} {Q : VK} (hσ : σ[i]? = some (some (.ref p))) (W : Works LS H p js)
    (bodies : ∀ j ∈ js, ∃ t, l.lookup j = some t ∧ ∀ H' (Qn : VK), Same H H' → (∀ u' H1, Same H' H1 → H1 u' = some (.tup [.str x, .int n]) → Qn (.ref u') H1) → t (fun cls d H'' => rErr K cls d H'' Qn) σ H' Qn)
    (fin : ∀ H', Same H H' → Q (.bl true) H') : (tAllC LS l (t_law_all K) N_law_all (tCons (tVar i) (tCons (tTup (tConsC (.str x) (tConsC (.int n) tNil))) tNil))) σ H Q :=
  ⟨_, hσ, worksDue W bodies fin⟩
theorem seq_in {a b : TS} {D : Ends} {σ : L2.St} {H : Hp} (h : a { D with nx := b D } σ H) : tSeq a b D σ H := h
theorem asg_in {te : TE} {i : Nat} {D : Ends} {σ : L2.St} {H : Hp} (h : te σ H fun v H1 => D.nx (σ.set i (some v)) H1) : tAsg te (gName i) D σ H := h
theorem worksInl2 {K : PySem.W.Frag} {T : List (Addr × Str)} {LS : List LamF} {l : List (Nat × (XK → TE))} {i j : Nat} {x : Str} {n : Int} {σ : L2.St} {H : Hp} {Q : VK} (TT : Tabs T H)
    (bodies : ∀ m ∈ [i, j], ∃ t, l.lookup m = some t ∧ ∀ H' (Qn : VK), ExtN H H' → (∀ u' H1, Same H' H1 → H1 u' = some (.tup [.str x, .int n]) → Qn (.ref u') H1) → t (fun cls d H'' => rErr K cls d H'' Qn) σ H' Qn)
    (fin : ∀ H', ExtN H H' → Tabs T H' → Q (.bl true) H') :
    (tAllC LS l (t_law_all K) N_law_all (tCons (tLst (tCons (tLamM T LS i) (tCons (tLamM T LS j) tNil))) (tCons (tTup (tConsC (.str x) (tConsC (.int n) tNil))) tNil))) σ H Q :=
  worksNew2 (K := K) (σ := σ) (Q := fun v H1 => (tCons (tTup (tConsC (.str x) (tConsC (.int n) tNil))) tNil) σ H1 fun vs H2 => (v :: vs).length = 2 ∧ t_law_all K LS (fun j E => lamT l j E σ) { nx := fun _ H' => Q .non H', rt := Q } (L2.start N_law_all (v :: vs)) H2) TT
    fun p H2 H' e T2 _ s2 W => worksDue W (fun m hm => let ⟨t, h1, h2⟩ := bodies m hm; ⟨t, h1, fun H3 Qn s3 => h2 H3 Qn ((e.trans (extS s2)).trans (extS s3))⟩) fun H3 s3 => fin H3 ((e.trans (extS s2)).trans (extS s3)) (tabs_same T2 (s2.trans s3))
theorem gName_in {i : Nat} {v : V} {σ : L2.St} {H : Hp} {C : L2.St → Hp → Prop} (h : C (σ.set i (some v)) H) : gName i v σ H C := h
end Rs

namespace Rs
open PySem PySem.Spec PyProof.Rows L2
open LamX
abbrev N_law_in : List Str := ["_law_plan_here", "_law_found", "_law_part"]
abbrev P_law_in : List Str := ["_law_plan_here"]
def spr_law_in (K : PySem.W.Frag) (d : Nat) : Sp := fun vs H Q E => match vs with
  | [pv] => ∃ pl, PlR H pv pl ∧ pl.depth < d ∧ pl.runs.length ≤ 1000 ∧ ∀ l H', H l = none → H' l = some (.lst (pl.runs.map V.int)) → Same H H' → Q (.ref l) H'
  | _ => False
abbrev sp_law_in (K : PySem.W.Frag) : Sp := spr_law_in K 42
theorem no_law_in (K : PySem.W.Frag) : ∀ vs H Q E, ¬ spr_law_in K 0 vs H Q E := fun vs H Q E h => by
  unfold spr_law_in at h
  match vs, h with
  | [_], ⟨_, _, h1, _⟩ => omega
theorem len_law_in (K : PySem.W.Frag) : ∀ d vs H Q E, spr_law_in K d vs H Q E → vs.length = 1 := fun d vs H Q E h => by
  unfold spr_law_in at h
  match vs, h with
  | [_], _ => rfl
def t_law_in (K : PySem.W.Frag) (sp : Sp) (E : XK) : TS := (tSeq (tIfS (tNot (tB (tIsi K "tuple" (tVar 0)))) (tRet (tLst (tCons (tVar 0) tNil))) tNext)
  (tSeq (tAsg (tLst tNil) (gName 1))
   (tSeq (tFor (iTup K (tVar 0)) (gName 2) (tDrop (tBM K "list" rExtend (tVar 1) (tCons (tCall sp [] E (tCons (tVar 2) tNil)) tNil))))
    (tRet (tVar 1)))))
theorem pure_law_in {K : PySem.W.Frag} (d : Nat) : ∀ vs H Q E, spr_law_in K (d + 1) vs H Q E → t_law_in K (spr_law_in K d) E { nx := fun _ H' => Q .non H', rt := Q } (start N_law_in vs) H := by
  intro vs H Q E hyp
  unfold spr_law_in at hyp
  match vs, hyp with
  | [pv], hyp =>
    obtain ⟨pl, hp, hd, hl, k⟩ := hyp
    cases pl with
    | leaf n =>
      have e := PlR.unleaf hp
      subst e
      refine ⟨_, rfl, isi_go (t := "int") (b := false) (.base (.int n)) (by decide +kernel) ⟨_, rfl, _, rfl, szle (by show 1 ≤ 100000; decide), fun l hl => ?_⟩⟩
      exact k l _ hl upd_same (Rs.Same.new hl)
    | node ps =>
      obtain ⟨a, tv, rfl, et, pt⟩ := PlR.unnode hp
      rw [Pl.depth] at hd
      rw [Pl.runs] at hl k
      refine ⟨_, rfl, isi_go (t := "tuple") (b := true) (tyT (SqT.of et)) (by decide +kernel) ⟨_, rfl, ?_⟩⟩
      refine ⟨sz0, fun f hf => ?_⟩
      refine ⟨_, rfl, a, rfl, ⟨_, SqT.of ((Rs.Same.new hf) _ _ et)⟩, ?_⟩
      refine for_tup (K := K) (a := a) (xs := tv) (fun j σ H' => ∃ x2, σ = [some (.ref a), some (.ref f), x2] ∧ H' f = some (.lst ((Pl.runsL (ps.take j)).map V.int)) ∧ Same H H') ⟨none, rfl, upd_same, Rs.Same.new hf⟩ ?_ ?_ ?_
      · rintro j σ H' _ ⟨_, _, _, s⟩
        exact SqT.of (s _ _ et)
      · rintro j v σ H' hj ⟨x2, rfl, ef, s⟩
        obtain ⟨p, hp, hpv⟩ := P2.get pt hj
        have dl := Pl.depthL_le (List.mem_of_getElem? hp)
        have b1 := runsL_take ps (j + 1)
        rw [runsL_snoc hp, List.length_append] at b1
        refine ⟨_, rfl, .inl ⟨rfl, _, SqL.of ef⟩, _, rfl, p, PlR.st _ _ _ _ (TupLe.same s) hpv, by omega, by omega, fun l H2 hl2 el s2 => ?_⟩
        have ef2 := s2 _ _ ef
        refine ⟨f, l, _, _, rfl, rfl, ef2, el, szle (by rw [List.length_map, List.length_map]; omega), _, rfl, ?_, Rs.Same.mut (s.trans s2) hf⟩
        rw [upd_same, runsL_snoc hp, List.map_append]
      · rintro σ H' ⟨x2, rfl, ef, s⟩
        rw [List.take_of_length_le (by rw [pt.length]; exact Nat.le_refl _)] at ef
        exact ⟨_, rfl, k f H' hf ef s⟩
abbrev N_law_cost : List Str := ["_law_lengths_here", "_law_plan_here", "_law_inner", "_law_part", "_law_run"]
abbrev P_law_cost : List Str := ["_law_lengths_here", "_law_plan_here"]
def spr_law_cost (K : PySem.W.Frag) (d : Nat) : Sp := fun vs H Q E => match vs with
  | [lv, pv] => ∃ (l : Addr) (ls : List Int) (pl : Pl), lv = .ref l ∧ H l = some (.lst (ls.map V.int)) ∧ PlR H pv pl ∧ pl.depth < d ∧ pl.depth < 42 ∧ pl.slim ∧ pl.runs.length ≤ 1000 ∧ (∀ r ∈ pl.runs, 0 ≤ r ∧ r < ls.length) ∧ ∀ H', Same H H' → Q (.int (pl.cost ls)) H'
  | _ => False
abbrev sp_law_cost (K : PySem.W.Frag) : Sp := spr_law_cost K 42
theorem no_law_cost (K : PySem.W.Frag) : ∀ vs H Q E, ¬ spr_law_cost K 0 vs H Q E := fun vs H Q E h => by
  unfold spr_law_cost at h
  match vs, h with
  | [_, _], ⟨_, _, _, _, _, _, h1, _⟩ => omega
theorem len_law_cost (K : PySem.W.Frag) : ∀ d vs H Q E, spr_law_cost K d vs H Q E → vs.length = 2 := fun d vs H Q E h => by
  unfold spr_law_cost at h
  match vs, h with
  | [_, _], _ => rfl
def t_law_cost (K : PySem.W.Frag) (sp : Sp) (E : XK) : TS := (tSeq (tIfS (tNot (tB (tIsi K "tuple" (tVar 1)))) (tRet (tC (.int 0))) tNext)
  (tSeq (tAsg (tCB1 (rSum K) (tLc (iTup K (tVar 1)) (gName 3) tYes (tCall sp [] E0 (tCons (tVar 0) (tCons (tVar 3) tNil))) [3])) (gName 2))
   (tRet (tOp xAdd (tVar 2) (tCB1 (rSum K) (tLc (iList K (tCall (sp_law_in K) [] E (tCons (tVar 1) tNil))) (gName 4) tYes (tOp (rIxL K) (tVar 0) (tVar 4)) [4]))))))
theorem pure_law_cost {K : PySem.W.Frag} (d : Nat) : ∀ vs H Q E, spr_law_cost K (d + 1) vs H Q E → t_law_cost K (spr_law_cost K d) E { nx := fun _ H' => Q .non H', rt := Q } (start N_law_cost vs) H := by
  intro vs H Q E hyp
  unfold spr_law_cost at hyp
  match vs, hyp with
  | [lv, pv], hyp =>
    obtain ⟨l, ls, pl, rfl, hl, hp, hd, hd2, sl, hn, hin, k⟩ := hyp
    cases pl with
    | leaf n =>
      have e := PlR.unleaf hp
      subst e
      exact ⟨_, rfl, isi_go (t := "int") (b := false) (.base (.int n)) (by decide +kernel) ⟨_, rfl, k H (Same.refl H)⟩⟩
    | node ps =>
      have hp0 := hp
      obtain ⟨a, tv, rfl, et, pt⟩ := PlR.unnode hp
      have dn : (Pl.node ps).depth = Pl.depthL ps + 1 := by rw [Pl.depth]
      have rn : (Pl.node ps).runs = Pl.runsL ps := by rw [Pl.runs]
      rw [Pl.slim] at sl
      have sls := Pl.slimL_of sl.2
      have lt := pt.length
      refine ⟨_, rfl, isi_go (t := "tuple") (b := true) (tyT (SqT.of et)) (by decide +kernel) ⟨_, rfl, ?_⟩⟩
      refine ⟨_, rfl, a, rfl, ⟨_, SqT.of et⟩, fun D hD => ?_⟩
      refine lcm_tup (S := IntAt) (fun p : Pl => some (p.cost ls)) IntAt.st et pt hD ?_ (by omega) ?_
      · intro j v x H' hx hj r s skip put
        have xm := List.mem_of_getElem? hx
        have dl := Pl.depthL_le xm
        have sb := Pl.runs_sub xm
        have sbl := sb.length_le
        rw [rn] at hn hin
        exact ⟨rfl, lc_yes ⟨_, rfl, _, rfl, l, ls, x, rfl, s _ _ hl, PlR.st _ _ _ _ (TupLe.same s) r, by omega, by omega, sls x xm, by omega, fun q hq => hin q (sb.subset hq), fun H2 s2 => put H2 _ _ s2 rfl rfl⟩⟩
      · intro H2 L s
        rw [fm_some] at L
        refine ⟨D, _, rfl, SqL.of (Lst.ints.mp L), ?_⟩
        refine ⟨_, rfl, _, rfl, .node ps, PlR.st _ _ _ _ (TupLe.same s) hp0, hd2, hn, fun lr H3 hlr er s3 => ?_⟩
        have s13 := s.trans s3
        refine ⟨lr, rfl, ⟨_, SqL.of er⟩, fun D2 hD2 => ?_⟩
        refine lcm_list (S := IntAt) (fun r : Int => some (ls.getD r.toNat 0)) IntAt.st er (ints_paired _) hD2 ?_ (by omega) ?_
        · intro j v x H' hx hj r s skip put
          have ev : v = .int x := r
          subst ev
          obtain ⟨h0, h1⟩ := hin x (List.mem_of_getElem? hx)
          refine ⟨rfl, lc_yes ⟨_, rfl, _, rfl, ixL ((s13.trans s) _ _ hl) (j := x.toNat) (by omega) (v := .int (ls.getD x.toNat 0)) ?_ (put H' _ _ (Same.refl _) rfl rfl)⟩⟩
          rw [List.getElem?_map, List.getElem?_eq_getElem (by omega), getD_lt (by omega)]
          rfl
        · intro H4 L4 s4
          rw [fm_some] at L4
          refine ⟨D2, _, rfl, SqL.of (Lst.ints.mp L4), _, _, rfl, rfl, ?_⟩
          have e : (ps.map fun p => p.cost ls).sum + ((Pl.node ps).runs.map fun r => ls.getD r.toNat 0).sum = (Pl.node ps).cost ls := by
            rw [Pl.cost, Pl.costL_map, rn, Int.add_comm]
            rfl
          dsimp only
          rw [e]
          exact k H4 (s13.trans s4)
abbrev N_law_fits : List Str := ["_law_plan_here", "_law_ways", "_law_bad_here", "_law_part"]
abbrev P_law_fits : List Str := ["_law_plan_here", "_law_ways"]
def spr_law_fits (K : PySem.W.Frag) (d : Nat) : Sp := fun vs H Q E => match vs with
  | [pv, wv] => ∃ (pl : Pl) (w : Nat), PlR H pv pl ∧ pl.depth < d ∧ pl.slim ∧ wv = .int (w : Int) ∧ ∀ H', Same H H' → Q (.bl (pl.fits w)) H'
  | _ => False
abbrev sp_law_fits (K : PySem.W.Frag) : Sp := spr_law_fits K 42
theorem no_law_fits (K : PySem.W.Frag) : ∀ vs H Q E, ¬ spr_law_fits K 0 vs H Q E := fun vs H Q E h => by
  unfold spr_law_fits at h
  match vs, h with
  | [_, _], ⟨_, _, _, h1, _⟩ => omega
theorem len_law_fits (K : PySem.W.Frag) : ∀ d vs H Q E, spr_law_fits K d vs H Q E → vs.length = 2 := fun d vs H Q E h => by
  unfold spr_law_fits at h
  match vs, h with
  | [_, _], _ => rfl
def t_law_fits (K : PySem.W.Frag) (sp : Sp) (E : XK) : TS := (tSeq (tIfS (tNot (tB (tIsi K "tuple" (tVar 0)))) (tRet (tC (.bl true))) tNext)
  (tSeq (tAsg (tLc (iTup K (tVar 0)) (gName 3) (tNot (tB (tCall sp [] E0 (tCons (tVar 3) (tCons (tVar 1) tNil))))) (tVar 3) [3]) (gName 2))
   (tRet (tAndV (tChain xLe xLe (tC (.int 2)) (tCB1 (xLen K) (tVar 0)) (tVar 1)) (tOp (xEqE K) (tVar 2) (tLst tNil))))))
theorem pure_law_fits {K : PySem.W.Frag} (d : Nat) : ∀ vs H Q E, spr_law_fits K (d + 1) vs H Q E → t_law_fits K (spr_law_fits K d) E { nx := fun _ H' => Q .non H', rt := Q } (start N_law_fits vs) H := by
  intro vs H Q E hyp
  unfold spr_law_fits at hyp
  match vs, hyp with
  | [pv, wv], hyp =>
    obtain ⟨pl, w, hp, hd, sl, rfl, k⟩ := hyp
    cases pl with
    | leaf n =>
      have e := PlR.unleaf hp
      subst e
      exact ⟨_, rfl, isi_go (t := "int") (b := false) (.base (.int n)) (by decide +kernel) ⟨_, rfl, k H (Same.refl H)⟩⟩
    | node ps =>
      obtain ⟨a, tv, rfl, et, pt⟩ := PlR.unnode hp
      have lt := pt.length
      rw [Pl.depth] at hd
      rw [Pl.slim] at sl
      rw [Pl.fits] at k
      have sls := Pl.slimL_of sl.2
      refine ⟨_, rfl, isi_go (t := "tuple") (b := true) (tyT (SqT.of et)) (by decide +kernel) ⟨_, rfl, ?_⟩⟩
      refine ⟨_, rfl, a, rfl, ⟨_, SqT.of et⟩, fun D hD => ?_⟩
      refine lcm_tup (S := PlR) (fun p : Pl => if (!p.fits w) = true then some p else none) PlR.st et pt hD ?_ (by omega) ?_
      · intro j v x H' hx hj r s skip put
        have dl := Pl.depthL_le (List.mem_of_getElem? hx)
        have r' := PlR.st _ _ _ _ (TupLe.same s) r
        refine ⟨rfl, _, rfl, _, rfl, x, w, r', by omega, sls x (List.mem_of_getElem? hx), rfl, fun H2 s2 => ⟨_, rfl, ?_⟩⟩
        cases hf : x.fits w with
        | true => exact skip H2 s2 (by rw [hf]; rfl)
        | false => exact ⟨_, rfl, put H2 _ _ s2 (by rw [hf]; rfl) (PlR.st _ _ _ _ (TupLe.same s2) r')⟩
      · intro H2 L s
        rw [fm_if (f := fun p => p), List.map_id'] at L
        obtain ⟨dv, ed, pd⟩ := L
        have hE : dv.isEmpty = Pl.fitsL w ps := by
          have l := pd.length
          have : dv.isEmpty = (ps.filter fun p => !p.fits w).isEmpty := by
            cases dv <;> cases hh : (ps.filter fun p => !p.fits w) <;> simp [hh] at l ⊢
          rw [this, filter_nil_all, Pl.fitsL_all]
        refine ⟨_, rfl, lenT ⟨a, rfl, s _ _ et⟩ rfl ⟨_, _, rfl, rfl, _, rfl, ?_⟩⟩
        rw [lt]
        by_cases h2 : (2 : Int) ≤ ((ps.length : Nat) : Int)
        · rw [decide_eq_true h2]
          refine ⟨_, rfl, _, _, rfl, rfl, _, rfl, ?_⟩
          have e2 : decide (2 ≤ ps.length) = true := decide_eq_true (by omega)
          by_cases hw : ((ps.length : Nat) : Int) ≤ (w : Int)
          · rw [decide_eq_true hw]
            have ew : decide (ps.length ≤ w) = true := decide_eq_true (by omega)
            rw [e2, ew, Bool.true_and, Bool.true_and] at k
            refine ⟨_, rfl, sz0, fun q hq => eqE ed hq (b := Pl.fitsL w ps) hE.symm (k _ (s.trans (Rs.Same.new hq)))⟩
          · rw [decide_eq_false hw]
            have ew : decide (ps.length ≤ w) = false := decide_eq_false (by omega)
            rw [e2, ew] at k
            exact k H2 s
        · rw [decide_eq_false h2]
          have e2 : decide (2 ≤ ps.length) = false := decide_eq_false (by omega)
          rw [e2] at k
          exact ⟨_, rfl, k H2 s⟩
abbrev N_need_lengthsX : List Str := ["lengths", "length"]
abbrev P_need_lengthsX : List Str := ["lengths"]
def sp_need_lengthsX (K : PySem.W.Frag) : Sp := fun vs H Q E => match vs with
  | [lv] => ∃ l ls, lv = .ref l ∧ H l = some (.lst (ls.map V.int)) ∧ ls.length ≤ 1000 ∧ (¬ GoodLens ls → ∀ H', Same H H' → E (.ref (He.ga K "BadLengths")) none H') ∧ (GoodLens ls → ∀ H', Same H H' → Q .non H')
  | _ => False
def t_need_lengthsX (K : PySem.W.Frag) (E : XK) : TS := (tSeq (tIfS (tNot (tTest (tChain xLe xLe (tC (.int 1)) (tCB1 (xLen K) (tVar 0)) (tC (.int 40))))) (tRaise E (.ref (He.ga K "BadLengths"))) tNext)
  (tIfS (tTest (tOp (xNeE K) (tLc (iList K (tVar 0)) (gName 1) (tNot (tTest (tChain xLe xLe (tC (.int 1)) (tVar 1) (tC (.int 1000000))))) (tVar 1) [1]) (tLst tNil))) (tRaise E (.ref (He.ga K "BadLengths"))) tNext))
theorem pure_need_lengthsX {K : PySem.W.Frag} : ∀ vs H Q E, sp_need_lengthsX K vs H Q E → t_need_lengthsX K E { nx := fun _ H' => Q .non H', rt := Q } (start N_need_lengthsX vs) H := by
  intro vs H Q E h
  match vs, h with
  | [lv], h =>
    obtain ⟨l, ls, rfl, hl, few, bad, k⟩ := h
    refine ⟨_, rfl, lenL hl rfl ⟨_, _, rfl, rfl, _, rfl, ?_⟩⟩
    rw [List.length_map]
    by_cases c1 : (1 : Int) ≤ (ls.length : Int)
    rotate_left
    · rw [decide_eq_false c1]
      exact ⟨_, rfl, bad (fun g => c1 (by have := g.pos; omega)) _ (Same.refl _)⟩
    rw [decide_eq_true c1]
    refine ⟨_, _, rfl, rfl, _, rfl, ?_⟩
    by_cases c2 : (ls.length : Int) ≤ 40
    rotate_left
    · rw [decide_eq_false c2]
      exact bad (fun g => c2 (by have := g.le; omega)) _ (Same.refl _)
    rw [decide_eq_true c2]
    refine ⟨_, rfl, l, rfl, ⟨_, SqL.of hl⟩, fun D hD => ?_⟩
    refine lcm_list (S := IntAt) (fun x : Int => if 1 ≤ x ∧ x ≤ 1000000 then none else some x) IntAt.st hl (ints_paired ls) hD ?_ (by omega) ?_
    · intro j v x H' hx hj r s skip put
      have e : v = .int x := r
      subst e
      refine ⟨rfl, _, rfl, _, _, rfl, rfl, _, rfl, ?_⟩
      by_cases g1 : 1 ≤ x
      · rw [decide_eq_true g1]
        refine ⟨_, _, rfl, rfl, _, rfl, ?_⟩
        by_cases g2 : x ≤ 1000000
        · rw [decide_eq_true g2]
          exact skip H' (Same.refl _) (if_pos ⟨g1, g2⟩)
        · rw [decide_eq_false g2]
          exact ⟨_, rfl, put _ _ _ (Same.refl _) (if_neg fun z => g2 z.2) rfl⟩
      · rw [decide_eq_false g1]
        exact ⟨_, rfl, _, rfl, put _ _ _ (Same.refl _) (if_neg fun z => g1 z.1) rfl⟩
    · intro H2 L s
      obtain ⟨vs, e, p⟩ := L
      have el := p.length
      refine ⟨sz0, fun q hq => neE e hq (b := !vs.isEmpty) rfl ⟨_, rfl, ?_⟩⟩
      have sq := s.trans (Rs.Same.new (o := .lst []) hq)
      cases vs with
      | nil =>
        have h0 : ls.filterMap (fun x : Int => if 1 ≤ x ∧ x ≤ 1000000 then none else some x) = [] := List.eq_nil_of_length_eq_zero el.symm
        refine k ⟨by omega, by omega, fun x hx => ?_⟩ _ sq
        have := List.filterMap_eq_nil_iff.mp h0 x hx
        by_cases c : 1 ≤ x ∧ x ≤ 1000000
        · exact c
        · rw [if_neg c] at this
          exact nomatch this
      | cons v vs =>
        refine bad (fun g => ?_) _ sq
        have h0 : ls.filterMap (fun x : Int => if 1 ≤ x ∧ x ≤ 1000000 then none else some x) = [] := List.filterMap_eq_nil_iff.mpr fun x hx => if_pos (g.all x hx)
        rw [h0] at el
        exact nomatch el
abbrev N_need_waysX : List Str := ["ways"]
abbrev P_need_waysX : List Str := ["ways"]
def sp_need_waysX (K : PySem.W.Frag) : Sp := fun vs H Q E => match vs with
  | [wv] => ∃ w : Int, wv = .int w ∧ (¬ (2 ≤ w ∧ w ≤ 6) → ∀ H', Same H H' → E (.ref (He.ga K "BadRoom")) none H') ∧ (2 ≤ w ∧ w ≤ 6 → ∀ H', Same H H' → Q .non H')
  | _ => False
def t_need_waysX (K : PySem.W.Frag) (E : XK) : TS := (tIfS (tNot (tTest (tChain xLe xLe (tC (.int 2)) (tVar 0) (tC (.int 6))))) (tRaise E (.ref (He.ga K "BadRoom"))) tNext)
theorem pure_need_waysX {K : PySem.W.Frag} : ∀ vs H Q E, sp_need_waysX K vs H Q E → t_need_waysX K E { nx := fun _ H' => Q .non H', rt := Q } (start N_need_waysX vs) H := by
  intro vs H Q E h
  match vs, h with
  | [wv], h =>
    obtain ⟨w, rfl, bad, k⟩ := h
    refine ⟨_, rfl, _, _, rfl, rfl, _, rfl, ?_⟩
    by_cases h1 : 2 ≤ w
    rotate_left
    · rw [decide_eq_false h1]
      exact ⟨_, rfl, bad (fun z => h1 z.1) _ (Same.refl H)⟩
    rw [decide_eq_true h1]
    refine ⟨_, _, rfl, rfl, _, rfl, ?_⟩
    by_cases h2 : w ≤ 6
    · rw [decide_eq_true h2]
      exact k ⟨h1, h2⟩ _ (Same.refl H)
    · rw [decide_eq_false h2]
      exact bad (fun z => h2 z.2) _ (Same.refl H)
abbrev N_costY : List Str := ["lengths", "ways", "plan"]
abbrev P_costY : List Str := ["lengths", "ways", "plan"]
def PlanOk (w n : Nat) (pl : Pl) : Prop := pl.fits w = true ∧ pl.runs.Perm (rng 0 n)
def RefLW (K : PySem.W.Frag) (ls : List Int) (w : Int) (H : Hp) (E : XK) : Prop := (¬ GoodLens ls ∧ ∀ H', Same H H' → E (.ref (He.ga K "BadLengths")) none H') ∨ (GoodLens ls ∧ ¬ (2 ≤ w ∧ w ≤ 6) ∧ ∀ H', Same H H' → E (.ref (He.ga K "BadRoom")) none H')
def sp_costY (K : PySem.W.Frag) : Sp := fun vs H Q E => match vs with
  | [lv, wv, pv] => ∃ (l : Addr) (ls : List Int) (w : Int), lv = .ref l ∧ H l = some (.lst (ls.map V.int)) ∧ ls.length ≤ 1000 ∧ wv = .int w ∧ (RefLW K ls w H E ∨ (GoodLens ls ∧ 2 ≤ w ∧ w ≤ 6 ∧ ∃ (wn : Nat) (pl : Pl), w = (wn : Int) ∧ PlR H pv pl ∧ pl.depth < 42 ∧ pl.slim ∧ pl.runs.length ≤ 1000 ∧
    (PlanOk wn ls.length pl → ∀ H', Same H H' → Q (.int (pl.cost ls)) H') ∧ (¬ PlanOk wn ls.length pl → ∀ H', Same H H' → E (.ref (He.ga K "BadPlan")) none H')))
  | _ => False
def t_costY (K : PySem.W.Frag) (E : XK) : TS := (tSeq (tDrop (tCall (sp_need_lengthsX K) [] E (tCons (tVar 0) tNil)))
  (tSeq (tDrop (tCall (sp_need_waysX K) [] E (tCons (tVar 1) tNil)))
   (tSeq (tIfS (tOr (tTest (tOp (rNeD K) (tCB1 (rSortedI K) (tCall (sp_runs_in K) [] E (tCons (tVar 2) tNil))) (tLstRg (tRg1 (tCB1 (xLen K) (tVar 0)))))) (tNot (tB (tCall (sp_are_merges K) [] E (tCons (tVar 2) (tCons (tVar 1) tNil)))))) (tRaise E (.ref (He.ga K "BadPlan"))) tNext)
    (tRet (tCall (sp_moved K) [] E (tCons (tVar 0) (tCons (tVar 2) tNil)))))))
theorem eqv_nums : ∀ a b : List Int, PyData.eqvAll (a.map PyData.int) (b.map PyData.int) = decide (a = b)
  | [], [] => by simp [PyData.eqvAll]
  | [], _ :: _ => by simp [PyData.eqvAll]
  | _ :: _, [] => by simp [PyData.eqvAll]
  | x :: a, y :: b => by
    rw [List.map_cons, List.map_cons]
    simp only [PyData.eqvAll]
    rw [eqv_nums a b]
    have e : PyData.eqv (.int x) (.int y) = decide (x = y) := by
      simp only [PyData.eqv]
      by_cases h : x = y <;> simp [h]
    rw [e]
    by_cases h : x = y <;> by_cases g : a = b <;> simp [h, g]
theorem eqv_numL (a b : List Int) : PyData.eqv (.list (a.map PyData.int)) (.list (b.map PyData.int)) = decide (a = b) := by
  rw [← eqv_nums]
  simp only [PyData.eqv]
theorem pure_costY {K : PySem.W.Frag} : ∀ vs H Q E, sp_costY K vs H Q E → t_costY K E { nx := fun _ H' => Q .non H', rt := Q } (start N_costY vs) H := by
  intro vs H Q E hyp
  match vs, hyp with
  | [lv, wv, pv], hyp =>
    obtain ⟨l, ls, w, rfl, hl, few0, rfl, hc⟩ := hyp
    refine ⟨_, rfl, l, ls, rfl, hl, few0, fun ng H1 s1 => ?_, fun g H1 s1 => ⟨_, rfl, w, rfl, fun nw H2 s2 => ?_, fun gw H2 s2 => ?_⟩⟩
    · rcases hc with (⟨_, e⟩ | ⟨g, _⟩) | ⟨g, _⟩
      · exact e _ s1
      · exact (ng g).elim
      · exact (ng g).elim
    · rcases hc with (⟨ng, _⟩ | ⟨_, _, e⟩) | ⟨_, w2, w6, _⟩
      · exact (ng g).elim
      · exact e _ (s1.trans s2)
      · exact (nw ⟨w2, w6⟩).elim
    obtain ⟨w2, w6, wn, pl, rfl, hp, dp, slim, few, kg, kb⟩ : 2 ≤ w ∧ w ≤ 6 ∧ ∃ (wn : Nat) (pl : Pl), w = (wn : Int) ∧ PlR H pv pl ∧ pl.depth < 42 ∧ pl.slim ∧ pl.runs.length ≤ 1000 ∧ (PlanOk wn ls.length pl → ∀ H', Same H H' → Q (.int (pl.cost ls)) H') ∧ (¬ PlanOk wn ls.length pl → ∀ H', Same H H' → E (.ref (He.ga K "BadPlan")) none H') := by
      rcases hc with (⟨ng, _⟩ | ⟨_, nw, _⟩) | ⟨_, r⟩
      · exact (ng g).elim
      · exact (nw gw).elim
      · exact r
    have g1 := g.pos
    have g4 := g.le
    have s02 := s1.trans s2
    refine ⟨_, rfl, pl, PlR.st _ _ _ _ (TupLe.same s02) hp, by omega, by omega, fun lr H3 hlr er s3 => ?_⟩
    have s03 := s02.trans s3
    refine ⟨lr, _, rfl, SqL.of er, fun ns' p' pm' up' hp' => ?_⟩
    have ll := pm'.length_eq
    generalize gX : upd _ p' _ = H4
    have s4 := newS hp' gX
    have ep := newE gX
    clear gX
    have s04 := s03.trans s4
    refine ⟨_, rfl, lenL (s04 _ _ hl) rfl ⟨_, rfl, RgOk.of_le (Int.le_refl _) (by rw [List.length_map]; omega) (by decide) (by rw [List.length_map]; omega), fun q hq => ?_⟩⟩
    have eq : rgV 0 (((ls.map V.int).length : Nat) : Int) = (rng 0 ls.length).map V.int := by
      unfold rgV rng
      rw [List.length_map, List.map_map]
      rfl
    rw [eq]
    generalize gX : upd _ q _ = H5
    have s5 := newS hq gX
    have eqq := newE gX
    clear gX
    have ok := ints_ok (ns := rng 0 ls.length) (by rw [rng_len]; omega)
    have ok2 := ints_ok (ns := ns') (by omega)
    refine ⟨_, _, ints_dp (s5 _ _ ep), ints_dp eqq, ok2.shaped (by decide), ok.shaped (by decide), _, rfl, ?_⟩
    rw [eqv_numL]
    have s05 := s04.trans s5
    have hp5 := PlR.st _ _ _ _ (TupLe.same s05) hp
    by_cases c : ns' = rng 0 ls.length
    rotate_left
    · rw [decide_eq_false c]
      refine kb (fun z => c (int_sorted (pm'.trans z.2) up' (rng_up _))) H5 s05
    rw [decide_eq_true c]
    have pm : pl.runs.Perm (rng 0 ls.length) := by rw [← c]; exact pm'.symm
    have rl := pm.length_eq
    rw [rng_len] at rl
    refine ⟨_, rfl, _, rfl, pl, wn, hp5, by omega, slim, rfl, fun H6 s6 => ⟨_, rfl, ?_⟩⟩
    have s06 := s05.trans s6
    cases fit : pl.fits wn with
    | false => exact kb (fun z => by have := z.1; rw [fit] at this; cases this) H6 s06
    | true =>
      refine ⟨_, rfl, _, rfl, l, ls, pl, rfl, s06 _ _ hl, PlR.st _ _ _ _ (TupLe.same s6) hp5, by omega, by omega, slim, by omega, fun r hr => rng_in (pm.mem_iff.mp hr), fun H7 s7 => kg ⟨fit, pm⟩ H7 (s06.trans s7)⟩
abbrev N_written_planX : List Str := ["lengths", "ways", "plan"]
abbrev P_written_planX : List Str := ["lengths", "ways", "plan"]
def sp_written_planX (K : PySem.W.Frag) : Sp := fun vs H Q E => match vs with
  | [lv, wv, pv] => ∃ (l : Addr) (ls : List Int) (w : Int), lv = .ref l ∧ H l = some (.lst (ls.map V.int)) ∧ ls.length ≤ 1000 ∧ wv = .int w ∧ (RefLW K ls w H E ∨ (GoodLens ls ∧ 2 ≤ w ∧ w ≤ 6 ∧ ∃ (wn : Nat) (pl : Pl), w = (wn : Int) ∧ PlR H pv pl ∧ pl.depth < 42 ∧ pl.slim ∧ pl.runs.length ≤ 1000 ∧
    ¬ PlanOk wn ls.length pl ∧ ∀ H', Same H H' → E (.ref (He.ga K "BadPlan")) none H'))
  | _ => False
def t_written_planX (K : PySem.W.Frag) (E : XK) : TS := (tSeq (tDrop (tCall (sp_costY K) [] E (tCons (tVar 0) (tCons (tVar 1) (tCons (tVar 2) tNil)))))
  tNever)
theorem pure_written_planX {K : PySem.W.Frag} : ∀ vs H Q E, sp_written_planX K vs H Q E → t_written_planX K E { nx := fun _ H' => Q .non H', rt := Q } (start N_written_planX vs) H := by
  intro vs H Q E h
  match vs, h with
  | [lv, wv, pv], h =>
    obtain ⟨l, ls, w, rfl, hl, few, rfl, hc⟩ := h
    refine ⟨_, rfl, _, rfl, _, rfl, l, ls, w, rfl, hl, few, rfl, ?_⟩
    rcases hc with hc | ⟨g, w2, w6, wn, pl, e, hp, dp, sl, fr, no, kb⟩
    · exact .inl hc
    · exact .inr ⟨g, w2, w6, wn, pl, e, hp, dp, sl, fr, fun z => (no z).elim, fun _ => kb⟩
abbrev N_cheapestX : List Str := ["lengths", "ways", "plans", "rows", "found", "some", "size", "name", "run", "one", "row"]
abbrev P_cheapestX : List Str := ["lengths", "ways"]
def sp_cheapestX (K : PySem.W.Frag) : Sp := fun vs H Q E => match vs with
  | [lv, wv] => ∃ (l : Addr) (ls : List Int) (w : Int), lv = .ref l ∧ H l = some (.lst (ls.map V.int)) ∧ ls.length ≤ 1000 ∧ wv = .int w ∧ RefLW K ls w H E
  | _ => False
def t_cheapestX (K : PySem.W.Frag) (E : XK) : TS := (tSeq (tDrop (tCall (sp_need_lengthsX K) [] E (tCons (tVar 0) tNil)))
  (tSeq (tDrop (tCall (sp_need_waysX K) [] E (tCons (tVar 1) tNil)))
   tNever))
theorem pure_cheapestX {K : PySem.W.Frag} : ∀ vs H Q E, sp_cheapestX K vs H Q E → t_cheapestX K E { nx := fun _ H' => Q .non H', rt := Q } (start N_cheapestX vs) H := by
  intro vs H Q E h
  match vs, h with
  | [lv, wv], h =>
    obtain ⟨l, ls, w, rfl, hl, few, rfl, hc⟩ := h
    refine ⟨_, rfl, l, ls, rfl, hl, few, fun ng H1 s1 => ?_, fun g H1 s1 => ⟨_, rfl, w, rfl, fun nw H2 s2 => ?_, fun gw H2 s2 => ?_⟩⟩
    · rcases hc with ⟨_, e⟩ | ⟨g, _⟩
      · exact e _ s1
      · exact (ng g).elim
    · rcases hc with ⟨ng, _⟩ | ⟨_, _, e⟩
      · exact (ng g).elim
      · exact e _ (s1.trans s2)
    · rcases hc with ⟨ng, _⟩ | ⟨_, nw, _⟩
      · exact (ng g).elim
      · exact (nw gw).elim
abbrev N_neighboursX : List Str := ["lengths", "ways", "costs", "ends"]
abbrev P_neighboursX : List Str := ["lengths", "ways"]
def sp_neighboursX (K : PySem.W.Frag) : Sp := fun vs H Q E => match vs with
  | [lv, wv] => ∃ (l : Addr) (ls : List Int) (w : Int), lv = .ref l ∧ H l = some (.lst (ls.map V.int)) ∧ ls.length ≤ 1000 ∧ wv = .int w ∧ RefLW K ls w H E
  | _ => False
def t_neighboursX (K : PySem.W.Frag) (E : XK) : TS := (tSeq (tDrop (tCall (sp_need_lengthsX K) [] E (tCons (tVar 0) tNil)))
  (tSeq (tDrop (tCall (sp_need_waysX K) [] E (tCons (tVar 1) tNil)))
   tNever))
theorem pure_neighboursX {K : PySem.W.Frag} : ∀ vs H Q E, sp_neighboursX K vs H Q E → t_neighboursX K E { nx := fun _ H' => Q .non H', rt := Q } (start N_neighboursX vs) H := by
  intro vs H Q E h
  match vs, h with
  | [lv, wv], h =>
    obtain ⟨l, ls, w, rfl, hl, few, rfl, hc⟩ := h
    refine ⟨_, rfl, l, ls, rfl, hl, few, fun ng H1 s1 => ?_, fun g H1 s1 => ⟨_, rfl, w, rfl, fun nw H2 s2 => ?_, fun gw H2 s2 => ?_⟩⟩
    · rcases hc with ⟨_, e⟩ | ⟨g, _⟩
      · exact e _ s1
      · exact (ng g).elim
    · rcases hc with ⟨ng, _⟩ | ⟨_, _, e⟩
      · exact (ng g).elim
      · exact e _ (s1.trans s2)
    · rcases hc with ⟨ng, _⟩ | ⟨_, nw, _⟩
      · exact (ng g).elim
      · exact (nw gw).elim
abbrev N_paperX : List Str := ["lengths", "ways", "costs", "begin", "end"]
abbrev P_paperX : List Str := ["lengths", "ways"]
def sp_paperX (K : PySem.W.Frag) : Sp := fun vs H Q E => match vs with
  | [lv, wv] => ∃ (l : Addr) (ls : List Int) (w : Int), lv = .ref l ∧ H l = some (.lst (ls.map V.int)) ∧ ls.length ≤ 1000 ∧ wv = .int w ∧ RefLW K ls w H E
  | _ => False
def t_paperX (K : PySem.W.Frag) (E : XK) : TS := (tSeq (tDrop (tCall (sp_need_lengthsX K) [] E (tCons (tVar 0) tNil)))
  (tSeq (tDrop (tCall (sp_need_waysX K) [] E (tCons (tVar 1) tNil)))
   tNever))
theorem pure_paperX {K : PySem.W.Frag} : ∀ vs H Q E, sp_paperX K vs H Q E → t_paperX K E { nx := fun _ H' => Q .non H', rt := Q } (start N_paperX vs) H := by
  intro vs H Q E h
  match vs, h with
  | [lv, wv], h =>
    obtain ⟨l, ls, w, rfl, hl, few, rfl, hc⟩ := h
    refine ⟨_, rfl, l, ls, rfl, hl, few, fun ng H1 s1 => ?_, fun g H1 s1 => ⟨_, rfl, w, rfl, fun nw H2 s2 => ?_, fun gw H2 s2 => ?_⟩⟩
    · rcases hc with ⟨_, e⟩ | ⟨g, _⟩
      · exact e _ s1
      · exact (ng g).elim
    · rcases hc with ⟨ng, _⟩ | ⟨_, _, e⟩
      · exact (ng g).elim
      · exact e _ (s1.trans s2)
    · rcases hc with ⟨ng, _⟩ | ⟨_, nw, _⟩
      · exact (ng g).elim
      · exact (nw gw).elim
abbrev N_boundX : List Str := ["lengths", "ways", "told", "costs", "begin", "end", "number"]
abbrev P_boundX : List Str := ["lengths", "ways", "told"]
def sp_boundX (K : PySem.W.Frag) : Sp := fun vs H Q E => match vs with
  | [lv, wv, _] => ∃ (l : Addr) (ls : List Int) (w : Int), lv = .ref l ∧ H l = some (.lst (ls.map V.int)) ∧ ls.length ≤ 1000 ∧ wv = .int w ∧ RefLW K ls w H E
  | _ => False
def t_boundX (K : PySem.W.Frag) (E : XK) : TS := (tSeq (tDrop (tCall (sp_need_lengthsX K) [] E (tCons (tVar 0) tNil)))
  (tSeq (tDrop (tCall (sp_need_waysX K) [] E (tCons (tVar 1) tNil)))
   tNever))
theorem pure_boundX {K : PySem.W.Frag} : ∀ vs H Q E, sp_boundX K vs H Q E → t_boundX K E { nx := fun _ H' => Q .non H', rt := Q } (start N_boundX vs) H := by
  intro vs H Q E h
  match vs, h with
  | [lv, wv, tv], h =>
    obtain ⟨l, ls, w, rfl, hl, few, rfl, hc⟩ := h
    refine ⟨_, rfl, l, ls, rfl, hl, few, fun ng H1 s1 => ?_, fun g H1 s1 => ⟨_, rfl, w, rfl, fun nw H2 s2 => ?_, fun gw H2 s2 => ?_⟩⟩
    · rcases hc with ⟨_, e⟩ | ⟨g, _⟩
      · exact e _ s1
      · exact (ng g).elim
    · rcases hc with ⟨ng, _⟩ | ⟨_, _, e⟩
      · exact (ng g).elim
      · exact e _ (s1.trans s2)
    · rcases hc with ⟨ng, _⟩ | ⟨_, nw, _⟩
      · exact (ng g).elim
      · exact (nw gw).elim
abbrev N_read_planY : List Str := ["lengths", "ways", "text", "words", "plan", "place"]
abbrev P_read_planY : List Str := ["lengths", "ways", "text"]
def sp_read_planY (K : PySem.W.Frag) : Sp := fun vs H Q E => match vs with
  | [lv, wv, _] => ∃ (l : Addr) (ls : List Int) (w : Int), lv = .ref l ∧ H l = some (.lst (ls.map V.int)) ∧ ls.length ≤ 1000 ∧ wv = .int w ∧ RefLW K ls w H E
  | _ => False
def t_read_planY (K : PySem.W.Frag) (E : XK) : TS := (tSeq (tDrop (tCall (sp_need_lengthsX K) [] E (tCons (tVar 0) tNil)))
  (tSeq (tDrop (tCall (sp_need_waysX K) [] E (tCons (tVar 1) tNil)))
   tNever))
theorem pure_read_planY {K : PySem.W.Frag} : ∀ vs H Q E, sp_read_planY K vs H Q E → t_read_planY K E { nx := fun _ H' => Q .non H', rt := Q } (start N_read_planY vs) H := by
  intro vs H Q E h
  match vs, h with
  | [lv, wv, tv], h =>
    obtain ⟨l, ls, w, rfl, hl, few, rfl, hc⟩ := h
    refine ⟨_, rfl, l, ls, rfl, hl, few, fun ng H1 s1 => ?_, fun g H1 s1 => ⟨_, rfl, w, rfl, fun nw H2 s2 => ?_, fun gw H2 s2 => ?_⟩⟩
    · rcases hc with ⟨_, e⟩ | ⟨g, _⟩
      · exact e _ s1
      · exact (ng g).elim
    · rcases hc with ⟨ng, _⟩ | ⟨_, _, e⟩
      · exact (ng g).elim
      · exact e _ (s1.trans s2)
    · rcases hc with ⟨ng, _⟩ | ⟨_, nw, _⟩
      · exact (ng g).elim
      · exact (nw gw).elim
end Rs

namespace Rs
open PySem PySem.Spec PyProof.Rows L2
open LamX
abbrev N_law_bad : List Str := ["_law_box", "_law_many", "_law_ways", "_law_plan_here", "_law_some", "_law_wide", "_law_odd", "_law_good"]
abbrev P_law_bad : List Str := ["_law_box", "_law_many", "_law_ways", "_law_plan_here"]
structure SmallP (p : Pl) : Prop where
  d : p.depth ≤ 40
  s : p.slim
  r : p.runs.length ≤ 200
def PlS : Rel Pl := fun H v p => PlR H v p ∧ SmallP p
theorem PlS.st : Stable PlS := fun _ _ _ _ t h => ⟨PlR.st _ _ _ _ t h.1, h.2⟩
def sp_law_bad (K : PySem.W.Frag) : Sp := fun vs H Q E => match vs with
  | [b, mv, wv, pv] => ∃ (a l : Addr) (n w : Nat) (pl : Pl), b = .ref a ∧ mv = .int (n : Int) ∧ wv = .int (w : Int) ∧ 2 ≤ w ∧ w ≤ 6 ∧ Box H a l ∧ PlR H pv pl ∧ pl.fits w = true ∧ pl.runs.Perm (rng 0 n) ∧ 1 ≤ n ∧ n ≤ 40 ∧
    ∀ v p H', PlR H' v p → SmallP p → ¬ PlanOk w n p → Box H' a l → But [a, l] H H' → Q v H'
  | _ => False
def t_law_bad (K : PySem.W.Frag) (E : XK) : TS := (tSeq (tAsg (tLst (tCons (tTup (tCons (tVar 3) (tCons (tVar 1) tNil))) (tCons (tTup (tCons (tVar 3) (tConsC (.int 0) tNil))) (tCons (tTup (tCons (tVar 3) (tConsC (.int (-1)) tNil))) (tCons (tTup (tCons (tVar 3) tNil)) tNil))))) (gName 4))
  (tSeq (tAsg (tOp rCat (tVar 4) (tLst (tCons (tTup (tCons (tVar 3) (tCons (tTup tNil) tNil))) (tCons (tVar 1) (tConsC (.int (-1)) tNil))))) (gName 4))
   (tSeq (tAsg (tCB1 (xTuple K) (tOp rCat (tLstRg (tRg1 (tVar 1))) (tLstRg (tRg2 (tVar 1) (tOpC xAdd (tVar 2) (.int 1)))))) (gName 5))
    (tSeq (tAsg (tOp rCat (tVar 4) (tLst (tCons (tOp (rRepT K) (tTup (tConsC (.int 0) tNil)) (tOpC xAdd (tVar 2) (.int 1))) (tCons (tIf (tTest (tOp xLe (tVar 1) (tVar 2))) (tVar 5) (tTup (tCons (tVar 3) tNil))) tNil)))) (gName 4))
     (tSeq (tIfS (tB (tIsi K "tuple" (tVar 3))) 
        (tSeq (tAsg (tOp rCat (tVar 4) (tLst (tCons (tOpC (rIxT K) (tVar 3) (.int 0)) (tCons (tSl (rSlTA K) (tVar 3) tNoPart (tPart (tC (.int (-1))))) (tCons (tOp (rCatA K) (tVar 3) (tSl (rSlTA K) (tVar 3) tNoPart (tPart (tC (.int 1))))) tNil))))) (gName 4))
        (tAsg (tOp rCat (tVar 4) (tLst (tCons (tTup (tCons (tSl (rSlTA K) (tVar 3) (tPart (tC (.int 1))) tNoPart) (tCons (tOpC (rIxT K) (tVar 3) (.int 0)) (tConsC (.int 0) tNil)))) (tCons (tTup (tCons (tSl (rSlTA K) (tVar 3) tNoPart (tPart (tC (.int 1)))) (tCons (tSl (rSlTA K) (tVar 3) (tPart (tC (.int 1))) tNoPart) tNil))) tNil)))) (gName 4))) tNext)
      (tSeq (tAsg (tOp (rIxL K) (tVar 4) (tCall (sp_law_take K) [] E (tCons (tVar 0) (tCons (tCB1 (xLen K) (tVar 4)) tNil)))) (gName 6))
       (tSeq (tAsg (tOp (rEqD K) (tCB1 (rSortedI K) (tCall (sp_law_in K) [] E (tCons (tVar 6) tNil))) (tLstRg (tRg1 (tVar 1)))) (gName 7))
        (tRet (tIf (tAnd (tB (tVar 7)) (tB (tCall (sp_law_fits K) [] E (tCons (tVar 6) (tCons (tVar 2) tNil))))) (tTup (tCons (tVar 3) tNil)) (tVar 6))))))))))
theorem runsL_sub : ∀ {ps qs : List Pl}, ps.Sublist qs → (Pl.runsL ps).length ≤ (Pl.runsL qs).length
  | _, _, .slnil => Nat.le_refl _
  | _, _, .cons a h => by
    rw [Pl.runsL, List.length_append]
    have := runsL_sub h
    omega
  | _, _, .cons₂ a h => by
    rw [Pl.runsL, Pl.runsL, List.length_append, List.length_append]
    have := runsL_sub h
    omega
theorem depthL_sub {ps qs : List Pl} (h : ∀ p ∈ ps, p ∈ qs) : Pl.depthL ps ≤ Pl.depthL qs := by
  induction ps with
  | nil => exact Nat.zero_le _
  | cons p ps ih =>
    rw [Pl.depthL]
    have a := Pl.depthL_le (h p (List.mem_cons_self ..))
    have b := ih fun q hq => h q (List.mem_cons_of_mem _ hq)
    omega
theorem slimL_to {ps : List Pl} (h : ∀ p ∈ ps, p.slim) : Pl.slimL ps := by
  induction ps with
  | nil => exact trivial
  | cons p ps ih => exact ⟨h p (List.mem_cons_self ..), ih fun q hq => h q (List.mem_cons_of_mem _ hq)⟩
theorem one_bad {w n : Nat} {p : Pl} : ¬ PlanOk w n (.node [p]) := fun h => by
  have f := h.1
  rw [Pl.fits] at f
  simp at f
theorem dropLast_cut {vs : List V} : cutV vs none (some (-1)) = vs.dropLast := by
  unfold cutV
  have e1 : HT.sIx vs.length 0 none = 0 := HT.sIx_none ..
  have e2 : HT.sIx vs.length vs.length (some (-1)) = vs.length - 1 := by
    unfold HT.sIx
    simp only
    split <;> omega
  rw [e1, e2, List.drop_zero, List.dropLast_eq_take]
  rfl
theorem slicePl {K : PySem.W.Frag} {H : Hp} {v : V} {ps qs : List Pl} {lo hi : Option Int} {Q : VK} (h : PlR H v (.node ps)) (hc : ∀ vs : List V, vs.length = ps.length → Paired (PlR H) vs ps → Paired (PlR H) (cutV vs lo hi) qs) (k : ∀ v' H', Same H H' → PlR H' v' (.node qs) → Q v' H') : rSlA K v lo hi H Q := by
  obtain ⟨a, vs, rfl, e, p⟩ := PlR.unnode h
  have ec := hc vs p.length p
  refine ⟨a, _, rfl, SqT.of e, fun ⟨h1, h2⟩ => k _ _ (Same.refl _) ?_, fun _ t ht => k _ _ (Rs.Same.new ht) (PlR.node upd_same (Paired.tl PlR.st (TupLe.new ht) ec))⟩
  have : cutV vs lo hi = vs := by
    unfold cutV
    rw [h1, h2, List.drop_zero, Nat.sub_zero]
    exact List.take_length
  rw [this] at ec
  exact PlR.node e ec
theorem catPl {K : PySem.W.Frag} {H : Hp} {x y : V} {ps qs : List Pl} {Q : VK} (hx : PlR H x (.node ps)) (hy : PlR H y (.node qs)) (hl : ps.length + qs.length ≤ 1000) (k : ∀ v H', Same H H' → PlR H' v (.node (ps ++ qs)) → Q v H') : rCatA K x y H Q := by
  obtain ⟨a, vs, rfl, ea, pa⟩ := PlR.unnode hx
  obtain ⟨b, us, rfl, eb, pb⟩ := PlR.unnode hy
  have l1 := pa.length
  have l2 := pb.length
  refine ⟨a, b, _, _, rfl, rfl, SqT.of ea, SqT.of eb, szle (by omega), fun z => ?_, fun _ z => ?_, fun _ _ p hp => k _ _ (Rs.Same.new hp) (PlR.node upd_same (P2.app (Paired.tl PlR.st (TupLe.new hp) pa) (Paired.tl PlR.st (TupLe.new hp) pb)))⟩
  · subst z
    cases pa
    exact k _ _ (Same.refl _) hy
  · subst z
    cases pb
    exact k _ _ (Same.refl _) (by rw [List.append_nil]; exact hx)
theorem moreP {H : Hp} {l b : Addr} {ps qs : List Pl} {Q : VK} (hx : Lst PlS H l ps) (hy : Lst PlS H b qs) (hl : ps.length + qs.length ≤ 1000) (k : ∀ p H', H p = none → Same H H' → Lst PlS H' p (ps ++ qs) → Q (.ref p) H') : rCat (.ref l) (.ref b) H Q := by
  obtain ⟨vs, e1, p1⟩ := hx
  obtain ⟨us, e2, p2⟩ := hy
  have l1 := p1.length
  have l2 := p2.length
  exact ⟨l, b, vs, us, rfl, rfl, e1, e2, szle (by omega), fun p hp => k p _ hp (Rs.Same.new hp) ⟨_, upd_same, P2.app (Paired.tl PlS.st (TupLe.new hp) p1) (Paired.tl PlS.st (TupLe.new hp) p2)⟩⟩
theorem pure_law_bad {K : PySem.W.Frag} : ∀ vs H Q E, sp_law_bad K vs H Q E → t_law_bad K E { nx := fun _ H' => Q .non H', rt := Q } (start N_law_bad vs) H := by
  intro vs H Q E h
  match vs, h with
  | [b, mv, wv, pv], h =>
    obtain ⟨a, l, n, w, pl, rfl, rfl, rfl, w2, w6, B, hp, fit, pm, n1, n40, k⟩ := h
    have rl := pm.length_eq
    rw [rng_len] at rl
    have dp := Pl.deep pl fit
    have sl := Pl.slim_fits (by omega) pl fit
    -- small things: a node of pl and of numbers
    have sm : ∀ ps : List Pl, ps.length ≤ 1000 → (∀ p ∈ ps, p.depth ≤ 39 ∧ p.slim) → (Pl.runsL ps).length ≤ 200 → SmallP (.node ps) := fun ps h1 h2 h3 => ⟨by
      rw [Pl.depth]
      have : Pl.depthL ps ≤ 39 := by
        clear h1 h3
        induction ps with
        | nil => exact Nat.zero_le _
        | cons p ps ih =>
          rw [Pl.depthL]
          have a := (h2 p (List.mem_cons_self ..)).1
          have b := ih fun q hq => h2 q (List.mem_cons_of_mem _ hq)
          omega
      omega, ⟨h1, slimL_to fun p hp => (h2 p hp).2⟩, by rw [Pl.runs]; exact h3⟩
    have okP : pl.depth ≤ 39 ∧ pl.slim := ⟨by omega, sl⟩
    have okL : ∀ x : Int, (Pl.leaf x).depth ≤ 39 ∧ (Pl.leaf x).slim := fun x => ⟨Nat.zero_le _, trivial⟩
    have two : ∀ x : Int, SmallP (.node [pl, .leaf x]) := fun x => sm _ (by show 2 ≤ 1000; decide) (fun p hp => by
      simp only [List.mem_cons, List.not_mem_nil, or_false] at hp
      rcases hp with rfl | rfl
      · exact okP
      · exact okL x) (by simp [Pl.runsL, Pl.runs]; omega)
    have onep : SmallP (.node [pl]) := sm _ (by show 1 ≤ 1000; decide) (fun p hp => by rw [List.mem_singleton.mp hp]; exact okP) (by simp [Pl.runsL]; omega)
    -- the end: one of them
    have fin : ∀ (p4 : Addr) (some_ : List Pl) (H' : Hp) (x5 : Option V), Lst PlS H' p4 some_ → 1 ≤ some_.length → some_.length ≤ 1000 → p4 ∉ [a, l] → Same H H' →
        (tSeq (tAsg (tOp (rIxL K) (tVar 4) (tCall (sp_law_take K) [] E (tCons (tVar 0) (tCons (tCB1 (xLen K) (tVar 4)) tNil)))) (gName 6))
       (tSeq (tAsg (tOp (rEqD K) (tCB1 (rSortedI K) (tCall (sp_law_in K) [] E (tCons (tVar 6) tNil))) (tLstRg (tRg1 (tVar 1)))) (gName 7))
        (tRet (tIf (tAnd (tB (tVar 7)) (tB (tCall (sp_law_fits K) [] E (tCons (tVar 6) (tCons (tVar 2) tNil))))) (tTup (tCons (tVar 3) tNil)) (tVar 6)))))
        { nx := fun _ H' => Q .non H', rt := Q } [some (.ref a), some (.int (n : Int)), some (.int (w : Int)), some pv, some (.ref p4), x5, none, none] H' := by
      intro p4 some_ H' x5 ⟨sv, es, ps⟩ g1 g2 n4 s0
      have lsv := ps.length
      refine ⟨_, rfl, _, rfl, _, rfl, lenL es rfl ⟨a, l, _, rfl, rfl, by omega, by omega, B.same s0, fun i0 H1 i1 i2 B1 k1 => ?_⟩⟩
      obtain ⟨i, rfl⟩ : ∃ m : Nat, i0 = (m : Int) := ⟨i0.toNat, by omega⟩
      have hi : i < some_.length := by omega
      have t1 := (B.same s0).tup k1
      obtain ⟨v, hv, pv', sp'⟩ := P2.get' ps (List.getElem?_eq_getElem hi)
      generalize some_[i] = q at pv' sp'
      have hq1 := PlR.st _ _ _ _ t1 pv'
      have qd := sp'.d
      have qr := sp'.r
      refine ixL (k1 _ _ es n4) rfl hv ⟨_, rfl, q, hq1, by omega, by omega, fun lr H3 hlr er s3 => ?_⟩
      refine ⟨lr, _, rfl, SqL.of er, fun ns' p' pm' up' hp' => ?_⟩
      have ll := pm'.length_eq
      generalize gX : upd _ p' _ = H4
      have s4 := newS hp' gX
      have ep := newE gX
      clear gX
      have s14 := s3.trans s4
      refine ⟨_, rfl, _, rfl, RgOk.of_le (Int.le_refl _) (by omega) (by decide) (by omega), fun g hg => ?_⟩
      have eq : rgV 0 ((n : Nat) : Int) = (rng 0 n).map V.int := by
        unfold rgV rng
        rw [List.map_map]
        rfl
      rw [eq]
      generalize gX : upd _ g _ = H5
      have s5 := newS hg gX
      have eqq := newE gX
      clear gX
      have s15 := s14.trans s5
      have ok := ints_ok (ns := rng 0 n) (by rw [rng_len]; omega)
      have ok2 := ints_ok (ns := ns') (by omega)
      refine ⟨_, _, ints_dp (s5 _ _ ep), ints_dp eqq, ok2.shaped (by decide), ok.shaped (by decide), ?_⟩
      rw [eqv_numL]
      have k05 : But [a, l] H H5 := ((But.same s0).trans k1).trans (But.same s15)
      have B5 := B1.same s15
      have hq5 := PlR.st _ _ _ _ (TupLe.same s15) hq1
      refine ⟨_, rfl, _, rfl, ?_⟩
      by_cases c : ns' = rng 0 n
      rotate_left
      · rw [decide_eq_false c]
        exact ⟨_, rfl, k v q H5 hq5 sp' (fun z => c (int_sorted (pm'.trans z.2) up' (rng_up _))) B5 k05⟩
      rw [decide_eq_true c]
      refine ⟨_, rfl, _, rfl, q, w, hq5, by omega, sp'.s, rfl, fun H6 s6 => ⟨_, rfl, ?_⟩⟩
      cases fitq : q.fits w with
      | false => exact ⟨_, rfl, k v q H6 (PlR.st _ _ _ _ (TupLe.same s6) hq5) sp' (fun z => by have := z.1; rw [fitq] at this; cases this) (B5.same s6) (k05.trans (But.same s6))⟩
      | true =>
        refine ⟨_, rfl, szle (by show 1 ≤ 100000; decide), fun t ht => ?_⟩
        have st : Same H6 (upd H6 t (.tup [pv])) := Rs.Same.new ht
        have k06 := (k05.trans (But.same s6)).trans (But.same (S := [a, l]) st)
        exact k _ (.node [pl]) _ (PlR.node upd_same (.cons (PlR.st _ _ _ _ (B.tup k06) hp) .nil)) onep one_bad ((B5.same s6).same st) k06
    -- parts of the plan
    have rest : ∀ (l5 : Addr) (so : List Pl) (H5 : Hp) (x5 : Option V), Lst PlS H5 l5 so → so.length = 9 → l5 ∉ [a, l] → Same H H5 →
        (tSeq (tIfS (tB (tIsi K "tuple" (tVar 3))) 
        (tSeq (tAsg (tOp rCat (tVar 4) (tLst (tCons (tOpC (rIxT K) (tVar 3) (.int 0)) (tCons (tSl (rSlTA K) (tVar 3) tNoPart (tPart (tC (.int (-1))))) (tCons (tOp (rCatA K) (tVar 3) (tSl (rSlTA K) (tVar 3) tNoPart (tPart (tC (.int 1))))) tNil))))) (gName 4))
        (tAsg (tOp rCat (tVar 4) (tLst (tCons (tTup (tCons (tSl (rSlTA K) (tVar 3) (tPart (tC (.int 1))) tNoPart) (tCons (tOpC (rIxT K) (tVar 3) (.int 0)) (tConsC (.int 0) tNil)))) (tCons (tTup (tCons (tSl (rSlTA K) (tVar 3) tNoPart (tPart (tC (.int 1)))) (tCons (tSl (rSlTA K) (tVar 3) (tPart (tC (.int 1))) tNoPart) tNil))) tNil)))) (gName 4))) tNext)
      (tSeq (tAsg (tOp (rIxL K) (tVar 4) (tCall (sp_law_take K) [] E (tCons (tVar 0) (tCons (tCB1 (xLen K) (tVar 4)) tNil)))) (gName 6))
       (tSeq (tAsg (tOp (rEqD K) (tCB1 (rSortedI K) (tCall (sp_law_in K) [] E (tCons (tVar 6) tNil))) (tLstRg (tRg1 (tVar 1)))) (gName 7))
        (tRet (tIf (tAnd (tB (tVar 7)) (tB (tCall (sp_law_fits K) [] E (tCons (tVar 6) (tCons (tVar 2) tNil))))) (tTup (tCons (tVar 3) tNil)) (tVar 6))))))
        { nx := fun _ H' => Q .non H', rt := Q } [some (.ref a), some (.int (n : Int)), some (.int (w : Int)), some pv, some (.ref l5), x5, none, none] H5 := by
      intro l5 so H5 x5 L5 c9 n5 s5
      have hp5 := PlR.st _ _ _ _ (TupLe.same s5) hp
      cases pl with
      | leaf m =>
        have e := PlR.unleaf hp
        subst e
        exact ⟨_, rfl, isi_go (t := "int") (b := false) (.base (.int m)) (by decide +kernel) ⟨_, rfl, fin l5 so H5 x5 L5 (by omega) (by omega) n5 s5⟩⟩
      | node qs =>
        obtain ⟨pa, pvs, rfl, et, pt⟩ := PlR.unnode hp5
        have lq := pt.length
        have f2 := fit
        rw [Pl.fits] at f2
        simp only [Bool.and_eq_true, decide_eq_true_eq] at f2
        have q2 : 2 ≤ qs.length := f2.1.1
        have q6 : qs.length ≤ w := f2.1.2
        have dq : Pl.depthL qs ≤ 38 := by
          have := okP.1
          rw [Pl.depth] at this
          omega
        have sq : ∀ q ∈ qs, q.depth ≤ 38 ∧ q.slim := fun q hq => ⟨Nat.le_trans (Pl.depthL_le hq) dq, Pl.slimL_of okP.2.2 q hq⟩
        have rq : (Pl.runsL qs).length ≤ 40 := by
          rw [Pl.runs] at rl
          omega
        obtain ⟨q0, hq0⟩ : ∃ q, qs[0]? = some q := ⟨qs[0], List.getElem?_eq_getElem (by omega)⟩
        have m0 := List.mem_of_getElem? hq0
        obtain ⟨v0, hv0, r0⟩ := P2.get' pt hq0
        have rr0 : q0.runs.length ≤ 40 := by
          have : (q0.runs).Sublist (Pl.runsL qs) := by
            rw [Pl.runsL_map]
            exact List.sublist_flatten_of_mem (List.mem_map.mpr ⟨q0, m0, rfl⟩)
          have := this.length_le
          omega
        have S0 : SmallP q0 := ⟨by have := (sq q0 m0).1; omega, (sq q0 m0).2, by omega⟩
        have inq : ∀ {ps : List Pl}, ps.Sublist qs → (∀ p ∈ ps, p.depth ≤ 39 ∧ p.slim) := fun h p hp' => ⟨by have := (sq p (h.subset hp')).1; omega, (sq p (h.subset hp')).2⟩
        have lowN : ∀ {ps : List Pl}, ps.Sublist qs → (Pl.node ps).depth ≤ 39 ∧ (Pl.node ps).slim := fun h => ⟨by
          rw [Pl.depth]
          have := depthL_sub (ps := _) (qs := qs) fun p hp' => h.subset hp'
          omega, ⟨by have := h.length_le; omega, slimL_to fun p hp' => (sq p (h.subset hp')).2⟩⟩
        have sub1 : (qs.take 1).Sublist qs := List.take_sublist ..
        have sub2 : (qs.drop 1).Sublist qs := List.drop_sublist ..
        have sub3 : qs.dropLast.Sublist qs := List.dropLast_sublist ..
        have u1 := runsL_sub sub1
        have u2 := runsL_sub sub2
        have u3 := runsL_sub sub3
        refine ⟨_, rfl, isi_go (t := "tuple") (b := true) (tyT (SqT.of et)) (by decide +kernel) ⟨_, rfl, ?_⟩⟩
        unfold tNoPart
        dsimp only
        rw [if_pos rfl]
        have hpl : PlR H5 (.ref pa) (.node qs) := hp5
        refine ⟨_, rfl, _, rfl, ixT ⟨pa, rfl, et⟩ (j := 0) rfl hv0 ⟨_, rfl, _, rfl, slicePl (qs := qs.dropLast) hpl (fun vs e p => by
          rw [dropLast_cut, List.dropLast_eq_take, List.dropLast_eq_take, ← p.length]
          exact P2.take _ p) fun va Ha sa ha => ?_⟩⟩
        refine ⟨_, rfl, _, rfl, _, rfl, slicePl (qs := qs.take 1) (PlR.st _ _ _ _ (TupLe.same sa) hpl) (fun vs e p => by
          rw [show cutV vs none (some 1) = vs.take 1 from cut_to (n := 1) (by omega)]
          exact P2.take _ p) fun vb Hb sb hb => ?_⟩
        have sab := sa.trans sb
        refine catPl (PlR.st _ _ _ _ (TupLe.same sab) hpl) hb (by rw [List.length_take]; omega) fun vc Hc sc hc => ⟨szle (by show 3 ≤ 100000; decide), fun l6 hl6 => ?_⟩
        have sac := sab.trans sc
        have s6 : Same Hc (upd Hc l6 (.lst [v0, va, vc])) := Rs.Same.new hl6
        have L6 : Lst PlS (upd Hc l6 (.lst [v0, va, vc])) l6 [q0, .node qs.dropLast, .node (qs ++ qs.take 1)] := ⟨_, upd_same, .cons ⟨PlR.st _ _ _ _ (TupLe.same (sac.trans s6)) r0, S0⟩ (.cons ⟨PlR.st _ _ _ _ (TupLe.same ((sb.trans sc).trans s6)) ha, sm _ (by have := sub3.length_le; omega) (inq sub3) (by omega)⟩ (.cons ⟨PlR.st _ _ _ _ (TupLe.same s6) hc, sm _ (by rw [List.length_append, List.length_take]; omega) (fun p hp' => by
          rcases List.mem_append.mp hp' with h | h
          · exact inq (List.Sublist.refl _) p h
          · exact inq sub1 p h) (by
          rw [runsL_app, List.length_append]
          omega)⟩ .nil))⟩
        generalize upd Hc l6 (.lst [v0, va, vc]) = H6 at s6 L6 ⊢
        have s56 := sac.trans s6
        refine moreP (L5.same PlS.st s56) L6 (by rw [c9]; show 9 + 3 ≤ 1000; decide) fun l7 H7 f7 s7 L7 => ?_
        have s57 := s56.trans s7
        have hp7 := PlR.st _ _ _ _ (TupLe.same s57) hpl
        have et7 := s57 _ _ et
        refine ⟨_, rfl, _, rfl, _, rfl, slicePl (qs := qs.drop 1) hp7 (fun vs e p => by
          rw [show cutV vs (some 1) none = vs.drop 1 from cut_from (n := 1) (by omega)]
          exact P2.drop _ p) fun vd Hd sd hd => ⟨_, rfl, ixT ⟨pa, rfl, sd _ _ et7⟩ (j := 0) rfl hv0 ⟨szle (by show 3 ≤ 100000; decide), fun t8 ht8 => ?_⟩⟩⟩
        have s8 : Same Hd (upd Hd t8 (.tup [vd, v0, .int 0])) := Rs.Same.new ht8
        have h8 : PlR (upd Hd t8 (.tup [vd, v0, .int 0])) (.ref t8) (.node [.node (qs.drop 1), q0, .leaf 0]) := PlR.node upd_same (.cons (PlR.st _ _ _ _ (TupLe.same s8) hd) (.cons (PlR.st _ _ _ _ (TupLe.same ((s57.trans sd).trans s8)) r0) (.cons (.leaf _) .nil)))
        generalize upd Hd t8 (.tup [vd, v0, .int 0]) = H8 at s8 h8 ⊢
        have s78 := sd.trans s8
        refine ⟨_, rfl, _, rfl, slicePl (qs := qs.take 1) (PlR.st _ _ _ _ (TupLe.same s78) hp7) (fun vs e p => by
          rw [show cutV vs none (some 1) = vs.take 1 from cut_to (n := 1) (by omega)]
          exact P2.take _ p) fun ve He se he => ⟨_, rfl, _, rfl, slicePl (qs := qs.drop 1) (PlR.st _ _ _ _ (TupLe.same (s78.trans se)) hp7) (fun vs e p => by
          rw [show cutV vs (some 1) none = vs.drop 1 from cut_from (n := 1) (by omega)]
          exact P2.drop _ p) fun vf Hf sf hf => ⟨szle (by show 2 ≤ 100000; decide), fun t9 ht9 => ?_⟩⟩⟩
        have s9 : Same Hf (upd Hf t9 (.tup [ve, vf])) := Rs.Same.new ht9
        have h9 : PlR (upd Hf t9 (.tup [ve, vf])) (.ref t9) (.node [.node (qs.take 1), .node (qs.drop 1)]) := PlR.node upd_same (.cons (PlR.st _ _ _ _ (TupLe.same (sf.trans s9)) he) (.cons (PlR.st _ _ _ _ (TupLe.same s9) hf) .nil))
        generalize upd Hf t9 (.tup [ve, vf]) = H9 at s9 h9 ⊢
        refine ⟨szle (by show 2 ≤ 100000; decide), fun l10 hl10 => ?_⟩
        have s10 : Same H9 (upd H9 l10 (.lst [.ref t8, .ref t9])) := Rs.Same.new hl10
        have s810 := ((se.trans sf).trans s9).trans s10
        have L10 : Lst PlS (upd H9 l10 (.lst [.ref t8, .ref t9])) l10 [.node [.node (qs.drop 1), q0, .leaf 0], .node [.node (qs.take 1), .node (qs.drop 1)]] := ⟨_, upd_same, .cons ⟨PlR.st _ _ _ _ (TupLe.same s810) h8, sm _ (by show 3 ≤ 1000; decide) (fun p hp' => by
          simp only [List.mem_cons, List.not_mem_nil, or_false] at hp'
          rcases hp' with rfl | rfl | rfl
          · exact lowN sub2
          · exact inq (List.Sublist.refl _) _ m0
          · exact okL 0) (by simp [Pl.runsL, Pl.runs] at *; omega)⟩ (.cons ⟨PlR.st _ _ _ _ (TupLe.same s10) h9, sm _ (by show 2 ≤ 1000; decide) (fun p hp' => by
          simp only [List.mem_cons, List.not_mem_nil, or_false] at hp'
          rcases hp' with rfl | rfl
          · exact lowN sub1
          · exact lowN sub2) (by rw [Pl.runsL, Pl.runsL, Pl.runsL, Pl.runs, Pl.runs, List.length_append, List.length_append, List.length_nil]; omega)⟩ .nil)⟩
        generalize upd H9 l10 (.lst [.ref t8, .ref t9]) = H10 at s10 s810 L10 ⊢
        have s710 := s78.trans s810
        refine moreP (L7.same PlS.st s710) L10 (by rw [List.length_append, c9]; show 12 + 2 ≤ 1000; decide) fun l11 H11 f11 s11 L11 => ?_
        have s511 := s57.trans (s710.trans s11)
        exact fin l11 _ H11 _ L11 (by rw [List.length_append, List.length_append, c9]; show 1 ≤ 14; decide) (by rw [List.length_append, List.length_append, c9]; show 14 ≤ 1000; decide) ((B.same (s5.trans (s57.trans s710))).fresh f11) (s5.trans s511)
    refine ⟨_, rfl, _, rfl, szle (by show 2 ≤ 100000; decide), fun t1 ht1 => ?_⟩
    generalize gX : upd _ t1 _ = H1
    have s1 := newS ht1 gX
    have e1 := newE gX
    clear gX
    refine ⟨_, rfl, szle (by show 2 ≤ 100000; decide), fun t2 ht2 => ?_⟩
    generalize gX : upd _ t2 _ = H2
    have s2 := newS ht2 gX
    have e2 := newE gX
    clear gX
    refine ⟨_, rfl, szle (by show 2 ≤ 100000; decide), fun t3 ht3 => ?_⟩
    generalize gX : upd _ t3 _ = H3
    have s3 := newS ht3 gX
    have e3 := newE gX
    clear gX
    refine ⟨_, rfl, szle (by show 1 ≤ 100000; decide), fun t4 ht4 => ?_⟩
    generalize gX : upd _ t4 _ = H4
    have s4 := newS ht4 gX
    have e4 := newE gX
    clear gX
    refine ⟨szle (by show 4 ≤ 100000; decide), fun l1 hl1 => ?_⟩
    have s14 := ((s1.trans s2).trans s3).trans s4
    have hp4 := PlR.st _ _ _ _ (TupLe.same s14) hp
    have nd : ∀ {Ha : Hp} {t : Addr} {x : Int}, Ha t = some (.tup [pv, .int x]) → PlR Ha pv pl → PlS Ha (.ref t) (.node [pl, .leaf x]) := fun e h => ⟨PlR.node e (.cons h (.cons (.leaf _) .nil)), two _⟩
    have P1 := nd ((s2.trans (s3.trans s4)) _ _ e1) hp4
    have P2' := nd ((s3.trans s4) _ _ e2) hp4
    have P3 := nd (s4 _ _ e3) hp4
    have P4 : PlS H4 (.ref t4) (.node [pl]) := ⟨PlR.node e4 (.cons hp4 .nil), onep⟩
    have s5 : Same H4 (upd H4 l1 (.lst [.ref t1, .ref t2, .ref t3, .ref t4])) := Rs.Same.new hl1
    have L1 : Lst PlS (upd H4 l1 (.lst [.ref t1, .ref t2, .ref t3, .ref t4])) l1 [.node [pl, .leaf (n : Int)], .node [pl, .leaf 0], .node [pl, .leaf (-1)], .node [pl]] :=
      ⟨_, upd_same, .cons (PlS.st _ _ _ _ (TupLe.same s5) P1) (.cons (PlS.st _ _ _ _ (TupLe.same s5) P2') (.cons (PlS.st _ _ _ _ (TupLe.same s5) P3) (.cons (PlS.st _ _ _ _ (TupLe.same s5) P4) .nil)))⟩
    generalize upd H4 l1 (.lst [.ref t1, .ref t2, .ref t3, .ref t4]) = H5 at s5 L1 ⊢
    have s05 := s14.trans s5
    -- (plan, ()), many, -1
    refine ⟨_, rfl, _, rfl, sz0, fun t6 ht6 => ?_⟩
    generalize gX : upd _ t6 _ = H6
    have s6 := newS ht6 gX
    have e6 := newE gX
    clear gX
    refine ⟨szle (by show 2 ≤ 100000; decide), fun t7 ht7 => ?_⟩
    generalize gX : upd _ t7 _ = H7
    have s7 := newS ht7 gX
    have e7 := newE gX
    clear gX
    refine ⟨_, rfl, szle (by show 3 ≤ 100000; decide), fun l2 hl2 => ?_⟩
    have s57 := s6.trans s7
    have s07 := s05.trans s57
    have hp7 := PlR.st _ _ _ _ (TupLe.same s07) hp
    have P7 : PlS H7 (.ref t7) (.node [pl, .node []]) := ⟨PlR.node e7 (.cons hp7 (.cons (PlR.node (s7 _ _ e6) .nil) .nil)), sm _ (by show 2 ≤ 1000; decide) (fun p hp => by
      simp only [List.mem_cons, List.not_mem_nil, or_false] at hp
      rcases hp with rfl | rfl
      · exact okP
      · exact ⟨by simp [Pl.depth, Pl.depthL], Nat.zero_le _, trivial⟩) (by simp [Pl.runsL, Pl.runs]; omega)⟩
    have sL : ∀ x : Int, SmallP (.leaf x) := fun x => ⟨Nat.zero_le _, trivial, by simp [Pl.runs]⟩
    have s8 : Same H7 (upd H7 l2 (.lst [.ref t7, .int (n : Int), .int (-1)])) := Rs.Same.new hl2
    have L2 : Lst PlS (upd H7 l2 (.lst [.ref t7, .int (n : Int), .int (-1)])) l2 [.node [pl, .node []], .leaf (n : Int), .leaf (-1)] :=
      ⟨_, upd_same, .cons (PlS.st _ _ _ _ (TupLe.same s8) P7) (.cons ⟨.leaf _, sL _⟩ (.cons ⟨.leaf _, sL _⟩ .nil))⟩
    generalize upd H7 l2 (.lst [.ref t7, .int (n : Int), .int (-1)]) = H8 at s8 L2 ⊢
    refine moreP (L1.same PlS.st (s57.trans s8)) L2 (by show 4 + 3 ≤ 1000; decide) fun l3 H9 _ s9 L3 => ?_
    have s09 := s07.trans (s8.trans s9)
    have c7 : ([.node [pl, .leaf (n : Int)], .node [pl, .leaf 0], .node [pl, .leaf (-1)], .node [pl]] ++ [.node [pl, .node []], .leaf (n : Int), .leaf (-1)] : List Pl).length = 7 := rfl
    generalize ([.node [pl, .leaf (n : Int)], .node [pl, .leaf 0], .node [pl, .leaf (-1)], .node [pl]] ++ [.node [pl, .node []], .leaf (n : Int), .leaf (-1)] : List Pl) = so at L3 c7
    clear L1 L2 P1 P2' P3 P4 P7 hp7 hp4 nd e1 e2 e3 e4 e6 e7 s6 s7 s8 s57 s5 s14 s1 s2 s3 s4 s05 s07 s9
    -- wide
    refine ⟨_, rfl, _, rfl, RgOk.of_le (Int.le_refl _) (by omega) (by decide) (by omega), fun q1 hq1 => ?_⟩
    have s1 : Same H9 (upd H9 q1 (.lst (rgV 0 (n : Int)))) := Rs.Same.new hq1
    have e1 : upd H9 q1 (.lst (rgV 0 (n : Int))) q1 = some _ := upd_same
    generalize upd H9 q1 (.lst (rgV 0 (n : Int))) = H10 at s1 e1 ⊢
    refine ⟨_, rfl, _, rfl, _, _, rfl, rfl, ?_⟩
    refine ⟨_, _, rfl, rfl, RgOk.of_le (by omega) (by show (w : Int) + 1 ≤ 16777216; omega) (by omega) (by show (0 : Int) ≤ (w : Int) + 1; omega), fun q2 hq2 => ?_⟩
    have s2 : Same H10 (upd H10 q2 (.lst (rgV (n : Int) ((w : Int) + 1)))) := Rs.Same.new hq2
    have e2 : upd H10 q2 (.lst (rgV (n : Int) ((w : Int) + 1))) q2 = some (.lst (rgV (n : Int) ((w : Int) + 1))) := upd_same
    have e12 := s2 _ _ e1
    generalize upd H10 q2 (.lst (rgV (n : Int) ((w : Int) + 1))) = H11 at s2 e2 e12 ⊢
    have r1 := rgV_length 0 (n : Int)
    have r2 := rgV_length (n : Int) ((w : Int) + 1)
    refine ⟨q1, q2, _, _, rfl, rfl, e12, e2, szle (by omega), fun q3 hq3 => ?_⟩
    have s3 : Same H11 (upd H11 q3 (.lst (rgV 0 (n : Int) ++ rgV (n : Int) ((w : Int) + 1)))) := Rs.Same.new hq3
    have e3 : upd H11 q3 (.lst (rgV 0 (n : Int) ++ rgV (n : Int) ((w : Int) + 1))) q3 = some (.lst (rgV 0 (n : Int) ++ rgV (n : Int) ((w : Int) + 1))) := upd_same
    generalize upd H11 q3 (.lst (rgV 0 (n : Int) ++ rgV (n : Int) ((w : Int) + 1))) = H12 at s3 e3 ⊢
    refine ⟨q3, _, rfl, .inl ⟨SqL.of e3, fun tw htw => ?_⟩⟩
    have s4 : Same H12 (upd H12 tw (.tup (rgV 0 (n : Int) ++ rgV (n : Int) ((w : Int) + 1)))) := Rs.Same.new htw
    have e4 : upd H12 tw (.tup (rgV 0 (n : Int) ++ rgV (n : Int) ((w : Int) + 1))) tw = some (.tup (rgV 0 (n : Int) ++ rgV (n : Int) ((w : Int) + 1))) := upd_same
    generalize upd H12 tw (.tup (rgV 0 (n : Int) ++ rgV (n : Int) ((w : Int) + 1))) = H13 at s4 e4 ⊢
    obtain ⟨ws, ews⟩ : ∃ ws : List Int, rgV 0 (n : Int) ++ rgV (n : Int) ((w : Int) + 1) = ws.map V.int := by
      refine ⟨((List.range ((n : Int) - 0).toNat).map fun (i : Nat) => 0 + (i : Int)) ++ (List.range (((w : Int) + 1) - (n : Int)).toNat).map fun (i : Nat) => (n : Int) + (i : Int), ?_⟩
      unfold rgV
      rw [List.map_append, List.map_map, List.map_map]
      rfl
    have lws : ws.length ≤ 100 := by
      have := congrArg List.length ews
      rw [List.length_append, r1, r2, List.length_map] at this
      omega
    rw [ews] at e4
    have leafs : ∀ xs : List Int, xs.length ≤ 200 → SmallP (.node (xs.map Pl.leaf)) := fun xs h => sm _ (by rw [List.length_map]; omega) (fun p hp => by
      obtain ⟨x, _, rfl⟩ := List.mem_map.mp hp
      exact okL x) (by rw [leaf_runs]; exact h)
    have PW : PlS H13 (.ref tw) (.node (ws.map Pl.leaf)) := ⟨PlR.node e4 (leaf_paired _), leafs _ (by omega)⟩
    have s913 := ((s1.trans s2).trans s3).trans s4
    have s013 := s09.trans s913
    have L13 := L3.same PlS.st s913
    clear L3 s913 s1 s2 s3 e1 e2 e3 e12 s09
    -- (0, 0, ..), wide or (plan,)
    refine ⟨_, rfl, szle (by show 1 ≤ 100000; decide), fun t1 ht1 => ?_⟩
    generalize gX : upd _ t1 _ = H14
    have s14 := newS ht1 gX
    have e14 := newE gX
    clear gX
    refine ⟨_, rfl, _, _, rfl, rfl, t1, _, _, rfl, rfl, SqT.of e14, (fun z => nomatch z), by show (2 : Int) ≤ (w : Int) + 1; omega, by show (w : Int) + 1 ≤ 1000; omega, by decide, fun t2 ht2 => ?_⟩
    have e15 : (List.replicate ((w : Int) + 1).toNat [V.int 0]).flatten = (List.replicate ((w : Int) + 1).toNat (0 : Int)).map V.int := by
      rw [List.map_replicate]
      generalize ((w : Int) + 1).toNat = m
      induction m with
      | zero => rfl
      | succ m ih => rw [List.replicate_succ, List.flatten_cons, ih, List.replicate_succ]; rfl
    dsimp only
    rw [e15]
    have s15 : Same H14 (upd H14 t2 (.tup ((List.replicate ((w : Int) + 1).toNat (0 : Int)).map V.int))) := Rs.Same.new ht2
    have PZ : PlS (upd H14 t2 (.tup ((List.replicate ((w : Int) + 1).toNat (0 : Int)).map V.int))) (.ref t2) (.node ((List.replicate ((w : Int) + 1).toNat (0 : Int)).map Pl.leaf)) := ⟨PlR.node upd_same (leaf_paired _), leafs _ (by rw [List.length_replicate]; omega)⟩
    generalize upd H14 t2 (.tup ((List.replicate ((w : Int) + 1).toNat (0 : Int)).map V.int)) = H15 at s15 PZ ⊢
    have s1315 := s14.trans s15
    have s015 := s013.trans s1315
    have PW15 := PlS.st _ _ _ _ (TupLe.same s1315) PW
    have L15 := L13.same PlS.st s1315
    -- behind the two
    have two2 : ∀ (v : V) (q : Pl) (H' : Hp), Same H15 H' → PlS H' v q → ∀ l4 H'', H'' l4 = some (.lst [.ref t2, v]) → Same H' H'' → Lst PlS H'' l4 [.node ((List.replicate ((w : Int) + 1).toNat (0 : Int)).map Pl.leaf), q] := fun v q H' sa hv l4 H'' e sb =>
      ⟨_, e, .cons (PlS.st _ _ _ _ (TupLe.same (sa.trans sb)) PZ) (.cons (PlS.st _ _ _ _ (TupLe.same sb) hv) .nil)⟩
    clear PW PZ L13 s14 s15 e14 e15 s013 s1315 s4 e4
    have go : ∀ (v : V) (q : Pl) (H' : Hp), Same H15 H' → PlS H' v q → (∀ l4, H' l4 = none → rCat (V.ref l3) (V.ref l4) (upd H' l4 (.lst [.ref t2, v])) fun x H1 => (tSeq (tIfS (tB (tIsi K "tuple" (tVar 3))) 
        (tSeq (tAsg (tOp rCat (tVar 4) (tLst (tCons (tOpC (rIxT K) (tVar 3) (.int 0)) (tCons (tSl (rSlTA K) (tVar 3) tNoPart (tPart (tC (.int (-1))))) (tCons (tOp (rCatA K) (tVar 3) (tSl (rSlTA K) (tVar 3) tNoPart (tPart (tC (.int 1))))) tNil))))) (gName 4))
        (tAsg (tOp rCat (tVar 4) (tLst (tCons (tTup (tCons (tSl (rSlTA K) (tVar 3) (tPart (tC (.int 1))) tNoPart) (tCons (tOpC (rIxT K) (tVar 3) (.int 0)) (tConsC (.int 0) tNil)))) (tCons (tTup (tCons (tSl (rSlTA K) (tVar 3) tNoPart (tPart (tC (.int 1)))) (tCons (tSl (rSlTA K) (tVar 3) (tPart (tC (.int 1))) tNoPart) tNil))) tNil)))) (gName 4))) tNext)
      (tSeq (tAsg (tOp (rIxL K) (tVar 4) (tCall (sp_law_take K) [] E (tCons (tVar 0) (tCons (tCB1 (xLen K) (tVar 4)) tNil)))) (gName 6))
       (tSeq (tAsg (tOp (rEqD K) (tCB1 (rSortedI K) (tCall (sp_law_in K) [] E (tCons (tVar 6) tNil))) (tLstRg (tRg1 (tVar 1)))) (gName 7))
        (tRet (tIf (tAnd (tB (tVar 7)) (tB (tCall (sp_law_fits K) [] E (tCons (tVar 6) (tCons (tVar 2) tNil))))) (tTup (tCons (tVar 3) tNil)) (tVar 6))))))
        { nx := fun _ H' => Q .non H', rt := Q } [some (.ref a), some (.int (n : Int)), some (.int (w : Int)), some pv, some x, some (.ref tw), none, none] H1) := fun v q H' sa hv l4 hl4 => by
      have sb : Same H' (upd H' l4 (.lst [.ref t2, v])) := Rs.Same.new hl4
      have L4 := two2 v q H' sa hv l4 _ upd_same sb
      generalize upd H' l4 (.lst [.ref t2, v]) = H'' at sb L4 ⊢
      have sc := sa.trans sb
      refine moreP (L15.same PlS.st sc) L4 (by rw [c7]; show 7 + 2 ≤ 1000; decide) fun l5 H3 f5 s3 L5 => ?_
      have s03 := s015.trans (sc.trans s3)
      exact rest l5 _ H3 _ L5 (by rw [List.length_append, c7]; rfl) ((B.same (s015.trans sc)).fresh f5) s03
    refine ⟨_, rfl, _, rfl, _, _, rfl, rfl, _, rfl, ?_⟩
    by_cases c : (n : Int) ≤ (w : Int)
    · rw [decide_eq_true c]
      exact ⟨_, rfl, szle (by show 2 ≤ 100000; decide), go _ _ H15 (Same.refl _) PW15⟩
    · rw [decide_eq_false c]
      refine ⟨_, rfl, szle (by show 1 ≤ 100000; decide), fun t5 ht5 => ⟨szle (by show 2 ≤ 100000; decide), ?_⟩⟩
      have s5 : Same H15 (upd H15 t5 (.tup [pv])) := Rs.Same.new ht5
      exact go _ (.node [pl]) _ s5 ⟨PlR.node upd_same (.cons (PlR.st _ _ _ _ (TupLe.same (s015.trans s5)) hp) .nil), onep⟩
end Rs

namespace Rs
open PySem PySem.Spec PyProof.Rows L2
open LamX
def Lms_k07 : Lams := [(("law", none), (("law" ++ ".<locals>.") ++ "<lambda>" : Str))]
abbrev N_law : List Str := ["_law_script", "_law_box", "_law_turn", "_law_lengths_here", "_law_ways", "_law_plan_here", "_law_handed", "_law_found", "_law_bad_here", "_law_works", "_law_far", "_law_at", "_law_odd", "_law_none"]
abbrev P_law : List Str := ["_law_script"]
def sp_law (K : PySem.W.Frag) : Sp := fun vs H Q E => match vs with
  | [s] => ∃ (p : Addr) (ns : List Int), s = .ref p ∧ SqL K H p (ns.map V.int) ∧ ns.length ≤ 63 ∧ Tabs (tabs Lms_k07 K) H ∧ ∀ H', Q (.bl true) H'
  | _ => False
def t_law (K : PySem.W.Frag) (LS : List LamF) (E : XK) : TS := (tSeq (tAsg (tCall (sp_law_begun K) [] E (tCons (tVar 0) tNil)) (gName 1))
  (tSeq (tFor (iRng1 (tConsC (.int 4) tNil)) (gName 2) 
     (tSeq (tAsg (tCall (sp_law_lengths K) [] E (tCons (tVar 1) (tCons (tOp (rIxL K) (tLst (tConsC (.int 6) (tConsC (.int 20) (tConsC (.int 40) tNil)))) (tCall (sp_law_take K) [] E (tCons (tVar 1) (tConsC (.int 3) tNil)))) tNil))) (gName 3))
     (tSeq (tAsg (tOpD xAdd (.int 2) (tCall (sp_law_take K) [] E (tCons (tVar 1) (tConsC (.int 5) tNil)))) (gName 4))
      (tSeq (tAsg (tCall (sp_law_plan K) [] E (tCons (tVar 1) (tCons (tLstRg (tRg1 (tCB1 (xLen K) (tVar 3)))) (tCons (tVar 4) tNil)))) (gName 5))
       (tSeq (tAsg (tCB1 (xList K) (tVar 3)) (gName 6))
        (tSeq (tAsg (tCall (sp_costY K) [] E (tCons (tVar 6) (tCons (tVar 4) (tCons (tVar 5) tNil)))) (gName 7))
         (tSeq (tIfS (tOr (tNot (tB (tCall (sp_law_alike K) [] E (tCons (tVar 7) (tCons (tCall (sp_law_cost K) [] E (tCons (tVar 3) (tCons (tVar 5) tNil))) tNil))))) (tTest (tOp (rNeD K) (tVar 6) (tVar 3)))) (tRet (tC (.bl false))) tNext)
          (tSeq (tAsg (tCall (sp_law_bad K) [] E (tCons (tVar 1) (tCons (tCB1 (xLen K) (tVar 3)) (tCons (tVar 4) (tCons (tVar 5) tNil))))) (gName 8))
           (tSeq (tAsg (tLst (tCons (tLamM (tabs Lms_k07 K) LS 0) (tCons (tLamM (tabs Lms_k07 K) LS 1) tNil))) (gName 9))
            (tSeq (tIfS (tNot (tB (tAllC LS [ (0, fun E => (tCall (sp_costY K) [] E (tCons (tVar 3) (tCons (tVar 4) (tCons (tVar 8) tNil))))) , (1, fun E => (tCall (sp_written_planX K) [] E (tCons (tVar 3) (tCons (tVar 4) (tCons (tVar 8) tNil))))) ] (t_law_all K) N_law_all (tCons (tVar 9) (tCons (tTup (tConsC (.str "BadPlan") (tConsC (.int 0) tNil))) tNil))))) (tRet (tC (.bl false))) tNext)
             (tSeq (tAsg (tOp (rIxL K) (tLst (tConsC (.int 1) (tConsC (.int 0) (tConsC (.int 7) (tCons (tOpD xAdd (.int 7) (tCall (sp_law_take K) [] E (tCons (tVar 1) (tCons (tOpC xPow (tC (.int 10)) (.int 18)) tNil)))) (tConsC (.int (-1)) tNil)))))) (tCall (sp_law_take K) [] E (tCons (tVar 1) (tConsC (.int 5) tNil)))) (gName 10))
              (tSeq (tAsg (tLst (tCons (tLamM (tabs Lms_k07 K) LS 2) (tCons (tLamM (tabs Lms_k07 K) LS 3) tNil))) (gName 9))
               (tSeq (tDrop (tBM K "list" rAppend (tVar 9) (tCons (tLamM (tabs Lms_k07 K) LS 4) tNil)))
                (tSeq (tDrop (tBM K "list" rAppend (tVar 9) (tCons (tLamM (tabs Lms_k07 K) LS 5) tNil)))
                 (tSeq (tDrop (tBM K "list" rAppend (tVar 9) (tCons (tLamM (tabs Lms_k07 K) LS 6) tNil)))
                  (tSeq (tDrop (tBM K "list" rAppend (tVar 9) (tCons (tLamM (tabs Lms_k07 K) LS 7) tNil)))
                   (tSeq (tDrop (tBM K "list" rAppend (tVar 9) (tCons (tLamM (tabs Lms_k07 K) LS 8) tNil)))
                    (tSeq (tIfS (tNot (tB (tAllC LS [ (2, fun E => (tCall (sp_costY K) [] E (tCons (tVar 3) (tCons (tVar 10) (tCons (tTup tNil) tNil))))) , (3, fun E => (tCall (sp_cheapestX K) [] E (tCons (tVar 3) (tCons (tVar 10) tNil)))) , (4, fun E => (tCall (sp_neighboursX K) [] E (tCons (tVar 3) (tCons (tVar 10) tNil)))) , (5, fun E => (tCall (sp_paperX K) [] E (tCons (tVar 3) (tCons (tVar 10) tNil)))) , (6, fun E => (tCall (sp_boundX K) [] E (tCons (tVar 3) (tCons (tVar 10) (tCons (tLst (tCons (tTup (tConsC (.int 9) (tConsC (.int 9) (tConsC (.int 9) tNil)))) tNil)) tNil))))) , (7, fun E => (tCall (sp_written_planX K) [] E (tCons (tVar 3) (tCons (tVar 10) (tCons (tTup tNil) tNil))))) , (8, fun E => (tCall (sp_read_planY K) [] E (tCons (tVar 3) (tCons (tVar 10) (tConsC (.str "x") tNil))))) ] (t_law_all K) N_law_all (tCons (tVar 9) (tCons (tTup (tConsC (.str "BadRoom") (tConsC (.int 0) tNil))) tNil))))) (tRet (tC (.bl false))) tNext)
                     (tSeq (tAsg (tCall (sp_law_take K) [] E (tCons (tVar 1) (tCons (tOpC xAdd (tCB1 (xLen K) (tVar 3)) (.int 1)) tNil))) (gName 11))
                      (tSeq (tAsg (tOp (rIxL K) (tLst (tConsC (.int 0) (tConsC (.int (-1)) (tCons (tOpC xAdd (tOpC xPow (tC (.int 10)) (.int 6)) (.int 1)) (tCons (tOpC xPow (tC (.int 10)) (.int 18)) tNil))))) (tCall (sp_law_take K) [] E (tCons (tVar 1) (tConsC (.int 4) tNil)))) (gName 8))
                       (tSeq (tAsg (tOp rCat (tOp rCat (tSl (rSlL K) (tVar 3) tNoPart (tPart (tVar 11))) (tLst (tCons (tVar 8) tNil))) (tSl (rSlL K) (tVar 3) (tPart (tVar 11)) tNoPart)) (gName 12))
                        (tSeq (tAsg (tOp (rIxL K) (tLst (tCons (tVar 12) (tCons (tLst tNil) (tCons (tOp rRep (tLst (tConsC (.int 1) tNil)) (tOpD xAdd (.int 41) (tCall (sp_law_take K) [] E (tCons (tVar 1) (tConsC (.int 3) tNil))))) tNil)))) (tCall (sp_law_take K) [] E (tCons (tVar 1) (tConsC (.int 3) tNil)))) (gName 13))
                         (tSeq (tAsg (tLst (tCons (tLamM (tabs Lms_k07 K) LS 9) (tCons (tLamM (tabs Lms_k07 K) LS 10) (tCons (tLamM (tabs Lms_k07 K) LS 11) tNil)))) (gName 9))
                          (tSeq (tDrop (tBM K "list" rAppend (tVar 9) (tCons (tLamM (tabs Lms_k07 K) LS 12) tNil)))
                           (tSeq (tDrop (tBM K "list" rAppend (tVar 9) (tCons (tLamM (tabs Lms_k07 K) LS 13) tNil)))
                            (tSeq (tDrop (tBM K "list" rAppend (tVar 9) (tCons (tLamM (tabs Lms_k07 K) LS 14) tNil)))
                             (tSeq (tIfS (tNot (tB (tAllC LS [ (9, fun E => (tCall (sp_costY K) [] E (tCons (tVar 13) (tConsC (.int 0) (tCons (tTup tNil) tNil))))) , (10, fun E => (tCall (sp_cheapestX K) [] E (tCons (tVar 13) (tConsC (.int 0) tNil)))) , (11, fun E => (tCall (sp_neighboursX K) [] E (tCons (tVar 13) (tConsC (.int 0) tNil)))) , (12, fun E => (tCall (sp_paperX K) [] E (tCons (tVar 13) (tConsC (.int 0) tNil)))) , (13, fun E => (tCall (sp_boundX K) [] E (tCons (tVar 13) (tConsC (.int 0) (tCons (tLst tNil) tNil))))) , (14, fun E => (tCall (sp_written_planX K) [] E (tCons (tVar 13) (tConsC (.int 0) (tCons (tTup tNil) tNil))))) ] (t_law_all K) N_law_all (tCons (tVar 9) (tCons (tTup (tConsC (.str "BadLengths") (tConsC (.int 0) tNil))) tNil))))) (tRet (tC (.bl false))) tNext)
                              (tIfS (tNot (tB (tAllC LS [ (15, fun E => (tCall (sp_read_planY K) [] E (tCons (tVar 13) (tConsC (.int 2) (tConsC (.str "0") tNil))))) , (16, fun E => (tCall (sp_read_planY K) [] E (tCons (tLst (tConsC (.int 0) tNil)) (tConsC (.int 2) (tConsC (.str "0") tNil))))) ] (t_law_all K) N_law_all (tCons (tLst (tCons (tLamM (tabs Lms_k07 K) LS 15) (tCons (tLamM (tabs Lms_k07 K) LS 16) tNil))) (tCons (tTup (tConsC (.str "BadLengths") (tConsC (.int 0) tNil))) tNil))))) (tRet (tC (.bl false))) tNext))))))))))))))))))))))))))))
   (tRet (tCall (sp_law_alike K) [] E (tCons (tOpC xGt (tCall (sp_costY K) [] E (tCons (tOpC rRep (tLst (tConsC (.int 1) tNil)) (.int 40)) (tConsC (.int 6) (tCons (tCall (sp_law_plan K) [] E (tCons (tVar 1) (tCons (tLstRg (tRg1 (tC (.int 40)))) (tConsC (.int 6) tNil)))) tNil)))) (.int 0)) (tConsC (.bl true) tNil))))))
def Turn7 (K : PySem.W.Frag) (s a l : Addr) (σ : L2.St) (H' : Hp) : Prop := ∃ x2 x3 x4 x5 x6 x7 x8 x9 x10 x11 x12 x13, σ = [some (.ref s), some (.ref a), x2, x3, x4, x5, x6, x7, x8, x9, x10, x11, x12, x13] ∧ Box H' a l ∧ Tabs (tabs Lms_k07 K) H'
def tS5 (K : PySem.W.Frag) (LS : List LamF) (E : XK) : TS := (tIfS (tNot (tB (tAllC LS [ (15, fun E => (tCall (sp_read_planY K) [] E (tCons (tVar 13) (tConsC (.int 2) (tConsC (.str "0") tNil))))) , (16, fun E => (tCall (sp_read_planY K) [] E (tCons (tLst (tConsC (.int 0) tNil)) (tConsC (.int 2) (tConsC (.str "0") tNil))))) ] (t_law_all K) N_law_all (tCons (tLst (tCons (tLamM (tabs Lms_k07 K) LS 15) (tCons (tLamM (tabs Lms_k07 K) LS 16) tNil))) (tCons (tTup (tConsC (.str "BadLengths") (tConsC (.int 0) tNil))) tNil))))) (tRet (tC (.bl false))) tNext)
def tS4b (K : PySem.W.Frag) (LS : List LamF) (E : XK) : TS := (tSeq (tAsg (tLst (tCons (tLamM (tabs Lms_k07 K) LS 9) (tCons (tLamM (tabs Lms_k07 K) LS 10) (tCons (tLamM (tabs Lms_k07 K) LS 11) tNil)))) (gName 9)) (tSeq (tDrop (tBM K "list" rAppend (tVar 9) (tCons (tLamM (tabs Lms_k07 K) LS 12) tNil))) (tSeq (tDrop (tBM K "list" rAppend (tVar 9) (tCons (tLamM (tabs Lms_k07 K) LS 13) tNil))) (tSeq (tDrop (tBM K "list" rAppend (tVar 9) (tCons (tLamM (tabs Lms_k07 K) LS 14) tNil))) (tSeq (tIfS (tNot (tB (tAllC LS [ (9, fun E => (tCall (sp_costY K) [] E (tCons (tVar 13) (tConsC (.int 0) (tCons (tTup tNil) tNil))))) , (10, fun E => (tCall (sp_cheapestX K) [] E (tCons (tVar 13) (tConsC (.int 0) tNil)))) , (11, fun E => (tCall (sp_neighboursX K) [] E (tCons (tVar 13) (tConsC (.int 0) tNil)))) , (12, fun E => (tCall (sp_paperX K) [] E (tCons (tVar 13) (tConsC (.int 0) tNil)))) , (13, fun E => (tCall (sp_boundX K) [] E (tCons (tVar 13) (tConsC (.int 0) (tCons (tLst tNil) tNil))))) , (14, fun E => (tCall (sp_written_planX K) [] E (tCons (tVar 13) (tConsC (.int 0) (tCons (tTup tNil) tNil))))) ] (t_law_all K) N_law_all (tCons (tVar 9) (tCons (tTup (tConsC (.str "BadLengths") (tConsC (.int 0) tNil))) tNil))))) (tRet (tC (.bl false))) tNext) (tS5 K LS E))))))
def tS4 (K : PySem.W.Frag) (LS : List LamF) (E : XK) : TS := (tSeq (tAsg (tCall (sp_law_take K) [] E (tCons (tVar 1) (tCons (tOpC xAdd (tCB1 (xLen K) (tVar 3)) (.int 1)) tNil))) (gName 11)) (tSeq (tAsg (tOp (rIxL K) (tLst (tConsC (.int 0) (tConsC (.int (-1)) (tCons (tOpC xAdd (tOpC xPow (tC (.int 10)) (.int 6)) (.int 1)) (tCons (tOpC xPow (tC (.int 10)) (.int 18)) tNil))))) (tCall (sp_law_take K) [] E (tCons (tVar 1) (tConsC (.int 4) tNil)))) (gName 8)) (tSeq (tAsg (tOp rCat (tOp rCat (tSl (rSlL K) (tVar 3) tNoPart (tPart (tVar 11))) (tLst (tCons (tVar 8) tNil))) (tSl (rSlL K) (tVar 3) (tPart (tVar 11)) tNoPart)) (gName 12)) (tSeq (tAsg (tOp (rIxL K) (tLst (tCons (tVar 12) (tCons (tLst tNil) (tCons (tOp rRep (tLst (tConsC (.int 1) tNil)) (tOpD xAdd (.int 41) (tCall (sp_law_take K) [] E (tCons (tVar 1) (tConsC (.int 3) tNil))))) tNil)))) (tCall (sp_law_take K) [] E (tCons (tVar 1) (tConsC (.int 3) tNil)))) (gName 13)) (tS4b K LS E)))))
def tS3b (K : PySem.W.Frag) (LS : List LamF) (E : XK) : TS := (tSeq (tAsg (tLst (tCons (tLamM (tabs Lms_k07 K) LS 2) (tCons (tLamM (tabs Lms_k07 K) LS 3) tNil))) (gName 9)) (tSeq (tDrop (tBM K "list" rAppend (tVar 9) (tCons (tLamM (tabs Lms_k07 K) LS 4) tNil))) (tSeq (tDrop (tBM K "list" rAppend (tVar 9) (tCons (tLamM (tabs Lms_k07 K) LS 5) tNil))) (tSeq (tDrop (tBM K "list" rAppend (tVar 9) (tCons (tLamM (tabs Lms_k07 K) LS 6) tNil))) (tSeq (tDrop (tBM K "list" rAppend (tVar 9) (tCons (tLamM (tabs Lms_k07 K) LS 7) tNil))) (tSeq (tDrop (tBM K "list" rAppend (tVar 9) (tCons (tLamM (tabs Lms_k07 K) LS 8) tNil))) (tSeq (tIfS (tNot (tB (tAllC LS [ (2, fun E => (tCall (sp_costY K) [] E (tCons (tVar 3) (tCons (tVar 10) (tCons (tTup tNil) tNil))))) , (3, fun E => (tCall (sp_cheapestX K) [] E (tCons (tVar 3) (tCons (tVar 10) tNil)))) , (4, fun E => (tCall (sp_neighboursX K) [] E (tCons (tVar 3) (tCons (tVar 10) tNil)))) , (5, fun E => (tCall (sp_paperX K) [] E (tCons (tVar 3) (tCons (tVar 10) tNil)))) , (6, fun E => (tCall (sp_boundX K) [] E (tCons (tVar 3) (tCons (tVar 10) (tCons (tLst (tCons (tTup (tConsC (.int 9) (tConsC (.int 9) (tConsC (.int 9) tNil)))) tNil)) tNil))))) , (7, fun E => (tCall (sp_written_planX K) [] E (tCons (tVar 3) (tCons (tVar 10) (tCons (tTup tNil) tNil))))) , (8, fun E => (tCall (sp_read_planY K) [] E (tCons (tVar 3) (tCons (tVar 10) (tConsC (.str "x") tNil))))) ] (t_law_all K) N_law_all (tCons (tVar 9) (tCons (tTup (tConsC (.str "BadRoom") (tConsC (.int 0) tNil))) tNil))))) (tRet (tC (.bl false))) tNext) (tS4 K LS E))))))))
def tS3 (K : PySem.W.Frag) (LS : List LamF) (E : XK) : TS := (tSeq (tAsg (tOp (rIxL K) (tLst (tConsC (.int 1) (tConsC (.int 0) (tConsC (.int 7) (tCons (tOpD xAdd (.int 7) (tCall (sp_law_take K) [] E (tCons (tVar 1) (tCons (tOpC xPow (tC (.int 10)) (.int 18)) tNil)))) (tConsC (.int (-1)) tNil)))))) (tCall (sp_law_take K) [] E (tCons (tVar 1) (tConsC (.int 5) tNil)))) (gName 10)) (tS3b K LS E))
def tS2b (K : PySem.W.Frag) (LS : List LamF) (E : XK) : TS := (tSeq (tAsg (tLst (tCons (tLamM (tabs Lms_k07 K) LS 0) (tCons (tLamM (tabs Lms_k07 K) LS 1) tNil))) (gName 9)) (tSeq (tIfS (tNot (tB (tAllC LS [ (0, fun E => (tCall (sp_costY K) [] E (tCons (tVar 3) (tCons (tVar 4) (tCons (tVar 8) tNil))))) , (1, fun E => (tCall (sp_written_planX K) [] E (tCons (tVar 3) (tCons (tVar 4) (tCons (tVar 8) tNil))))) ] (t_law_all K) N_law_all (tCons (tVar 9) (tCons (tTup (tConsC (.str "BadPlan") (tConsC (.int 0) tNil))) tNil))))) (tRet (tC (.bl false))) tNext) (tS3 K LS E)))
def tS2 (K : PySem.W.Frag) (LS : List LamF) (E : XK) : TS := (tSeq (tAsg (tCall (sp_law_bad K) [] E (tCons (tVar 1) (tCons (tCB1 (xLen K) (tVar 3)) (tCons (tVar 4) (tCons (tVar 5) tNil))))) (gName 8)) (tS2b K LS E))
structure At7 (K : PySem.W.Frag) (H : Hp) (a l f : Addr) (ls : List Int) : Prop where
  B : Box H a l
  T : Tabs (tabs Lms_k07 K) H
  e : H f = some (.lst (ls.map V.int))
  n : f ∉ [a, l]
  g : GoodLens ls
theorem At7.ext {K : PySem.W.Frag} {H H' : Hp} {a l f : Addr} {ls : List Int} (A : At7 K H a l f ls) (e : ExtN H H') (T : Tabs (tabs Lms_k07 K) H') : At7 K H' a l f ls := ⟨A.B.extN e, T, e _ _ A.e fun _ z => (by cases z), A.n, A.g⟩
theorem At7.same {K : PySem.W.Frag} {H H' : Hp} {a l f : Addr} {ls : List Int} (A : At7 K H a l f ls) (s : Same H H') : At7 K H' a l f ls := A.ext (extS s) (tabs_same A.T s)
theorem At7.but {K : PySem.W.Frag} {H H' : Hp} {a l f : Addr} {ls : List Int} (A : At7 K H a l f ls) (k : But [a, l] H H') (B : Box H' a l) : At7 K H' a l f ls := ⟨B, tabs_but A.T k A.B.free, k _ _ A.e A.n, A.n, A.g⟩
theorem ref_len {K : PySem.W.Frag} {ls : List Int} {w : Int} {H : Hp} {Qn : VK} (E : ErrIs K "BadLengths") (bad : ¬ GoodLens ls) (told : ∀ u' H1, Same H H1 → H1 u' = some (.tup [.str "BadLengths", .int 0]) → Qn (.ref u') H1) : RefLW K ls w H (fun cls d H'' => rErr K cls d H'' Qn) :=
  .inl ⟨bad, fun H1 s1 => rErr_plain E (by decide) fun u H2 hu s2 e => told u H2 (s1.trans s2) e⟩
theorem ref_room {K : PySem.W.Frag} {ls : List Int} {w : Int} {H : Hp} {Qn : VK} (E : ErrIs K "BadRoom") (g : GoodLens ls) (bad : ¬ (2 ≤ w ∧ w ≤ 6)) (told : ∀ u' H1, Same H H1 → H1 u' = some (.tup [.str "BadRoom", .int 0]) → Qn (.ref u') H1) : RefLW K ls w H (fun cls d H'' => rErr K cls d H'' Qn) :=
  .inr ⟨g, bad, fun H1 s1 => rErr_plain E (by decide) fun u H2 hu s2 e => told u H2 (s1.trans s2) e⟩
theorem RefLW.same {K : PySem.W.Frag} {ls : List Int} {w : Int} {H H' : Hp} {E : XK} (h : RefLW K ls w H E) (s : Same H H') : RefLW K ls w H' E := h.elim (fun ⟨a, b⟩ => .inl ⟨a, fun H1 s1 => b H1 (s.trans s1)⟩) fun ⟨a, c, b⟩ => .inr ⟨a, c, fun H1 s1 => b H1 (s.trans s1)⟩
section
variable {K : PySem.W.Frag} {LS : List LamF} {E : XK} {EN : Ends} {H : Hp} {s a l f : Addr} {ls : List Int} {x2 x4 x5 x6 x7 x8 x9 x10 x11 x12 x13 : Option V}
theorem st5 (eL : ErrIs K "BadLengths") {nn : Addr} {ns : List Int} (A : At7 K H a l f ls) (en : H nn = some (.lst (ns.map V.int))) (few : ns.length ≤ 1000) (bad : ¬ GoodLens ns)
    (k : ∀ σ' H', Turn7 K s a l σ' H' → EN.nx σ' H') : tS5 K LS E EN [some (.ref s), some (.ref a), x2, some (.ref f), x4, x5, x6, x7, x8, x9, x10, x11, x12, some (.ref nn)] H := by
  unfold tS5 tIfS tNot tB
  refine worksInl2 A.T (fun j hj => ?_) (fun H3 e3 T3 => ⟨_, rfl, k _ _ ⟨_, _, _, _, _, _, _, _, _, _, _, _, rfl, A.B.extN e3, T3⟩⟩)
  simp only [List.mem_cons, List.not_mem_nil, or_false] at hj
  rcases hj with rfl | rfl
  · exact ⟨_, rfl, fun H3 Qn e3 told => ⟨_, rfl, nn, ns, 2, rfl, e3 _ _ en fun _ z => (by cases z), few, rfl, ref_len eL bad told⟩⟩
  · refine ⟨_, rfl, fun H3 Qn e3 told => ⟨szle (by show 1 ≤ 100000; decide), fun q hq => ?_⟩⟩
    have s4 : Same H3 (upd H3 q (.lst [.int 0])) := Rs.Same.new hq
    exact ⟨q, [0], 2, rfl, upd_same, by decide, rfl, (ref_len eL (fun g => absurd (g.all 0 (by simp)).1 (by decide)) told).same s4⟩
theorem st4b (eL : ErrIs K "BadLengths") {nn : Addr} {ns : List Int} (A : At7 K H a l f ls) (en : H nn = some (.lst (ns.map V.int))) (few : ns.length ≤ 1000) (bad : ¬ GoodLens ns)
    (k : ∀ σ' H', Turn7 K s a l σ' H' → EN.nx σ' H') : tS4b K LS E EN [some (.ref s), some (.ref a), x2, some (.ref f), x4, x5, x6, x7, x8, x9, x10, x11, x12, some (.ref nn)] H := by
  unfold tS4b
  refine seq_in (asg_in (worksNew3 (K := K) A.T fun p H0 H1 e0 T0 hp s1 W1 => ?_))
  have e01 : ExtN H0 H1 := extS s1
  have T1 := tabs_same T0 s1
  dsimp only [List.set]
  refine seq_in (worksAdd T1 rfl hp e01 W1 (by decide) fun H2 e02 T2 W2 => ?_)
  refine seq_in (worksAdd T2 rfl hp e02 W2 (by decide) fun H3 e03 T3 W3 => ?_)
  refine seq_in (worksAdd T3 rfl hp e03 W3 (by decide) fun H4 e04 T4 W4 => ?_)
  have e4 := e0.trans e04
  have en4 := e4 _ _ en fun _ z => by cases z
  have A4 := A.ext e4 T4
  refine seq_in ?_
  unfold tIfS tNot tB
  refine worksAll rfl W4 (fun j hj => ?_) (fun H5 s5 => ⟨_, rfl, ?_⟩)
  rotate_left
  · exact st5 (E := E) eL (A4.same s5) (s5 _ _ en4) few bad k
  simp only [List.cons_append, List.nil_append, List.mem_cons, List.not_mem_nil, or_false] at hj
  rcases hj with rfl | rfl | rfl | rfl | rfl | rfl
  · exact ⟨_, rfl, fun H3 Qn s3 told => ⟨_, rfl, sz0, fun q hq => ⟨nn, ns, 0, rfl, (s3.trans (Rs.Same.new hq)) _ _ en4, few, rfl, .inl ((ref_len eL bad told).same (Rs.Same.new hq))⟩⟩⟩
  · exact ⟨_, rfl, fun H3 Qn s3 told => ⟨_, rfl, nn, ns, 0, rfl, s3 _ _ en4, few, rfl, ref_len eL bad told⟩⟩
  · exact ⟨_, rfl, fun H3 Qn s3 told => ⟨_, rfl, nn, ns, 0, rfl, s3 _ _ en4, few, rfl, ref_len eL bad told⟩⟩
  · exact ⟨_, rfl, fun H3 Qn s3 told => ⟨_, rfl, nn, ns, 0, rfl, s3 _ _ en4, few, rfl, ref_len eL bad told⟩⟩
  · exact ⟨_, rfl, fun H3 Qn s3 told => ⟨_, rfl, sz0, fun q hq => ⟨nn, ns, 0, rfl, (s3.trans (Rs.Same.new hq)) _ _ en4, few, rfl, (ref_len eL bad told).same (Rs.Same.new hq)⟩⟩⟩
  · exact ⟨_, rfl, fun H3 Qn s3 told => ⟨_, rfl, sz0, fun q hq => ⟨nn, ns, 0, rfl, (s3.trans (Rs.Same.new hq)) _ _ en4, few, rfl, .inl ((ref_len eL bad told).same (Rs.Same.new hq))⟩⟩⟩
theorem st4 (eL : ErrIs K "BadLengths") (A : At7 K H a l f ls)
    (k : ∀ σ' H', Turn7 K s a l σ' H' → EN.nx σ' H') : tS4 K LS E EN [some (.ref s), some (.ref a), x2, some (.ref f), x4, x5, x6, x7, x8, x9, x10, x11, x12, x13] H := by
  have g1 := A.g.pos
  have g4 := A.g.le
  unfold tS4
  refine ⟨_, rfl, _, rfl, lenL A.e (by rw [List.length_map]) ⟨_, _, rfl, rfl, a, l, _, rfl, rfl, by omega, by omega, A.B, fun at0 H1 p0 p1 B1 k1 => ?_⟩⟩
  obtain ⟨at_, rfl⟩ : ∃ m : Nat, at0 = (m : Int) := ⟨at0.toNat, by omega⟩
  have A1 := A.but k1 B1
  refine ⟨_, _, rfl, rfl, ⟨by decide, by decide, by decide⟩, _, _, rfl, rfl, ?_⟩
  refine ⟨_, _, rfl, rfl, ⟨by decide, by decide, by decide⟩, szle (by show 4 ≤ 100000; decide), fun q hq => ?_⟩
  have fq := A1.B.fresh hq
  have s2 : Same H1 (upd H1 q (.lst [.int 0, .int (-1), .int (10 ^ (6 : Int).toNat + 1), .int (10 ^ (18 : Int).toNat)])) := Rs.Same.new hq
  have e2 : upd H1 q (.lst [.int 0, .int (-1), .int (10 ^ (6 : Int).toNat + 1), .int (10 ^ (18 : Int).toNat)]) q = some _ := upd_same
  generalize upd H1 q (.lst [.int 0, .int (-1), .int (10 ^ (6 : Int).toNat + 1), .int (10 ^ (18 : Int).toNat)]) = H2 at s2 e2 ⊢
  have A2 := A1.same s2
  refine ⟨_, rfl, a, l, _, rfl, rfl, by decide, by decide, A2.B, fun r H3 r0 r1 B3 k3 => ?_⟩
  have A3 := A2.but k3 B3
  obtain ⟨b, hb, bb⟩ : ∃ b : Int, ([.int 0, .int (-1), .int (10 ^ (6 : Int).toNat + 1), .int (10 ^ (18 : Int).toNat)] : List V)[r.toNat]? = some (.int b) ∧ ¬ (1 ≤ b ∧ b ≤ 1000000) := by
    have : r = 0 ∨ r = 1 ∨ r = 2 ∨ r = 3 := by omega
    rcases this with rfl | rfl | rfl | rfl
    · exact ⟨_, rfl, by decide⟩
    · exact ⟨_, rfl, by decide⟩
    · exact ⟨_, rfl, by decide⟩
    · exact ⟨_, rfl, by decide⟩
  refine ixL (k3 _ _ e2 fq) (show r = ((r.toNat : Nat) : Int) by omega) hb ?_
  clear s2 e2 fq k3 B3 A2 A1 A k1 B1
  -- odd
  unfold tNoPart
  dsimp only
  refine ⟨_, rfl, _, rfl, _, rfl, f, _, rfl, SqL.of A3.e, fun q1 hq1 => ?_⟩
  rw [show cutV (ls.map V.int) none (some ((at_ : Nat) : Int)) = (ls.take at_).map V.int by rw [cut_to (by rw [List.length_map]; omega), List.map_take]]
  have s4 : Same H3 (upd H3 q1 (.lst ((ls.take at_).map V.int))) := Rs.Same.new hq1
  have e4 : upd H3 q1 (.lst ((ls.take at_).map V.int)) q1 = some (.lst ((ls.take at_).map V.int)) := upd_same
  generalize upd H3 q1 (.lst ((ls.take at_).map V.int)) = H4 at s4 e4 ⊢
  refine ⟨_, rfl, szle (by show 1 ≤ 100000; decide), fun q2 hq2 => ?_⟩
  have s5 : Same H4 (upd H4 q2 (.lst [.int b])) := Rs.Same.new hq2
  have e5 : upd H4 q2 (.lst [.int b]) q2 = some (.lst ([b].map V.int)) := upd_same
  have e45 := s5 _ _ e4
  generalize upd H4 q2 (.lst [.int b]) = H5 at s5 e5 e45 ⊢
  have lt : (ls.take at_).length ≤ 40 := by rw [List.length_take]; omega
  refine ⟨q1, q2, _, _, rfl, rfl, e45, e5, szle (by rw [List.length_map, List.length_map, List.length_singleton]; omega), fun q3 hq3 => ?_⟩
  rw [← List.map_append]
  have s6 : Same H5 (upd H5 q3 (.lst ((ls.take at_ ++ [b]).map V.int))) := Rs.Same.new hq3
  have e6 : upd H5 q3 (.lst ((ls.take at_ ++ [b]).map V.int)) q3 = some (.lst ((ls.take at_ ++ [b]).map V.int)) := upd_same
  generalize upd H5 q3 (.lst ((ls.take at_ ++ [b]).map V.int)) = H6 at s6 e6 ⊢
  have s36 := (s4.trans s5).trans s6
  refine ⟨_, rfl, _, rfl, _, rfl, f, _, rfl, SqL.of (s36 _ _ A3.e), fun q4 hq4 => ?_⟩
  rw [show cutV (ls.map V.int) (some ((at_ : Nat) : Int)) none = (ls.drop at_).map V.int by rw [cut_from (by rw [List.length_map]; omega), List.map_drop]]
  have s7 : Same H6 (upd H6 q4 (.lst ((ls.drop at_).map V.int))) := Rs.Same.new hq4
  have e7 : upd H6 q4 (.lst ((ls.drop at_).map V.int)) q4 = some (.lst ((ls.drop at_).map V.int)) := upd_same
  have e67 := s7 _ _ e6
  generalize upd H6 q4 (.lst ((ls.drop at_).map V.int)) = H7 at s7 e7 e67 ⊢
  have ld : (ls.drop at_).length ≤ 40 := by rw [List.length_drop]; omega
  refine ⟨q3, q4, _, _, rfl, rfl, e67, e7, szle (by rw [List.length_map, List.length_map, List.length_append, List.length_singleton]; omega), fun q5 hq5 => ?_⟩
  rw [← List.map_append]
  have s8 : Same H7 (upd H7 q5 (.lst ((ls.take at_ ++ [b] ++ ls.drop at_).map V.int))) := Rs.Same.new hq5
  have e8 : upd H7 q5 (.lst ((ls.take at_ ++ [b] ++ ls.drop at_).map V.int)) q5 = some (.lst ((ls.take at_ ++ [b] ++ ls.drop at_).map V.int)) := upd_same
  have n5 := (A3.B.same (s36.trans s7)).fresh hq5
  generalize upd H7 q5 (.lst ((ls.take at_ ++ [b] ++ ls.drop at_).map V.int)) = H8 at s8 e8 ⊢
  have badO : ¬ GoodLens (ls.take at_ ++ [b] ++ ls.drop at_) := fun g => bb (g.all b (by simp))
  have lO : (ls.take at_ ++ [b] ++ ls.drop at_).length ≤ 81 := by rw [List.length_append, List.length_append, List.length_singleton]; omega
  generalize ls.take at_ ++ [b] ++ ls.drop at_ = od at e8 badO lO
  have A8 := A3.same ((s36.trans s7).trans s8)
  clear s4 s5 s6 s7 s8 s36 e4 e5 e45 e6 e67 e7 A3 hb bb
  -- none
  refine ⟨_, rfl, sz0, fun q6 hq6 => ?_⟩
  have n6 := A8.B.fresh hq6
  have s9 : Same H8 (upd H8 q6 (.lst [])) := Rs.Same.new hq6
  have e9 : upd H8 q6 (.lst []) q6 = some (.lst (([] : List Int).map V.int)) := upd_same
  have e89 := s9 _ _ e8
  generalize upd H8 q6 (.lst []) = H9 at s9 e9 e89 ⊢
  have A9 := A8.same s9
  refine ⟨szle (by show 1 ≤ 100000; decide), fun q7 hq7 => ?_⟩
  have n7 := A9.B.fresh hq7
  have s10 : Same H9 (upd H9 q7 (.lst [.int 1])) := Rs.Same.new hq7
  have e10 : upd H9 q7 (.lst [.int 1]) q7 = some (.lst [.int 1]) := upd_same
  generalize upd H9 q7 (.lst [.int 1]) = H10 at s10 e10 ⊢
  have A10 := A9.same s10
  refine ⟨_, rfl, a, l, _, rfl, rfl, by decide, by decide, A10.B, fun m0 H11 m1 m2 B11 k11 => ⟨_, _, rfl, rfl, ?_⟩⟩
  have A11 := A10.but k11 B11
  refine ⟨q7, _, _, rfl, rfl, k11 _ _ e10 n7, by show -(2 ^ 63) ≤ 41 + m0; omega, by show 41 + m0 < 2 ^ 63; omega, szle (by show 1 * (41 + m0).toNat ≤ 100000; omega), fun q8 hq8 => ?_⟩
  have e12v : (List.replicate (41 + m0).toNat [V.int 1]).flatten = (List.replicate (41 + m0).toNat (1 : Int)).map V.int := by
    rw [List.map_replicate]
    generalize (41 + m0).toNat = m
    induction m with
    | zero => rfl
    | succ m ih => rw [List.replicate_succ, List.flatten_cons, ih, List.replicate_succ]; rfl
  dsimp only
  rw [e12v]
  have n8 := A11.B.fresh hq8
  have s12 : Same H11 (upd H11 q8 (.lst ((List.replicate (41 + m0).toNat (1 : Int)).map V.int))) := Rs.Same.new hq8
  have e12 : upd H11 q8 (.lst ((List.replicate (41 + m0).toNat (1 : Int)).map V.int)) q8 = some (.lst ((List.replicate (41 + m0).toNat (1 : Int)).map V.int)) := upd_same
  generalize upd H11 q8 (.lst ((List.replicate (41 + m0).toNat (1 : Int)).map V.int)) = H12 at s12 e12 ⊢
  have A12 := A11.same s12
  refine ⟨szle (by show 3 ≤ 100000; decide), fun q9 hq9 => ?_⟩
  have n9 := A12.B.fresh hq9
  have s13 : Same H12 (upd H12 q9 (.lst [.ref q5, .ref q6, .ref q8])) := Rs.Same.new hq9
  have e13 : upd H12 q9 (.lst [.ref q5, .ref q6, .ref q8]) q9 = some (.lst [.ref q5, .ref q6, .ref q8]) := upd_same
  generalize upd H12 q9 (.lst [.ref q5, .ref q6, .ref q8]) = H13 at s13 e13 ⊢
  have A13 := A12.same s13
  have kk : But [a, l] H9 H13 := ((But.same s10).trans k11).trans (But.same (s12.trans s13))
  refine ⟨_, rfl, a, l, _, rfl, rfl, by decide, by decide, A13.B, fun i0 H14 i1 i2 B14 k14 => ?_⟩
  have A14 := A13.but k14 B14
  have k914 := kk.trans k14
  obtain ⟨nn, ns', hnn, en, lnn, bad⟩ : ∃ (nn : Addr) (ns' : List Int), ([.ref q5, .ref q6, .ref q8] : List V)[i0.toNat]? = some (.ref nn) ∧ H14 nn = some (.lst (ns'.map V.int)) ∧ ns'.length ≤ 1000 ∧ ¬ GoodLens ns' := by
    have : i0 = 0 ∨ i0 = 1 ∨ i0 = 2 := by omega
    rcases this with rfl | rfl | rfl
    · exact ⟨q5, od, rfl, k914 _ _ e89 n5, by omega, badO⟩
    · exact ⟨q6, [], rfl, k914 _ _ e9 n6, by decide, fun g => absurd g.pos (by decide)⟩
    · refine ⟨q8, _, rfl, k14 _ _ (s13 _ _ e12) n8, by rw [List.length_replicate]; omega, fun g => ?_⟩
      have := g.le
      rw [List.length_replicate] at this
      omega
  refine ixL (k14 _ _ e13 n9) (show i0 = ((i0.toNat : Nat) : Int) by omega) hnn ?_
  exact gName_in (st4b (E := E) eL A14 en lnn bad k)
theorem st3b (eL : ErrIs K "BadLengths") (eR : ErrIs K "BadRoom") {far : Int} (A : At7 K H a l f ls) (bad : ¬ (2 ≤ far ∧ far ≤ 6))
    (k : ∀ σ' H', Turn7 K s a l σ' H' → EN.nx σ' H') : tS3b K LS E EN [some (.ref s), some (.ref a), x2, some (.ref f), x4, x5, x6, x7, x8, x9, some (.int far), x11, x12, x13] H := by
  have few : ls.length ≤ 1000 := by have := A.g.le; omega
  unfold tS3b
  refine seq_in (asg_in (worksNew2 (K := K) A.T fun p H0 H1 e0 T0 hp s1 W1 => ?_))
  have e01 : ExtN H0 H1 := extS s1
  have T1 := tabs_same T0 s1
  dsimp only [List.set]
  refine seq_in (worksAdd T1 rfl hp e01 W1 (by decide) fun H2 e02 T2 W2 => ?_)
  refine seq_in (worksAdd T2 rfl hp e02 W2 (by decide) fun H3 e03 T3 W3 => ?_)
  refine seq_in (worksAdd T3 rfl hp e03 W3 (by decide) fun H4 e04 T4 W4 => ?_)
  refine seq_in (worksAdd T4 rfl hp e04 W4 (by decide) fun H5 e05 T5 W5 => ?_)
  refine seq_in (worksAdd T5 rfl hp e05 W5 (by decide) fun H6 e06 T6 W6 => ?_)
  have e6 := e0.trans e06
  have A6 := A.ext e6 T6
  refine seq_in ?_
  unfold tIfS tNot tB
  refine worksAll rfl W6 (fun j hj => ?_) (fun H7 s7 => ⟨_, rfl, ?_⟩)
  rotate_left
  · exact st4 (E := E) eL (A6.same s7) k
  have ef := A6.e
  have g := A6.g
  simp only [List.cons_append, List.nil_append, List.mem_cons, List.not_mem_nil, or_false] at hj
  rcases hj with rfl | rfl | rfl | rfl | rfl | rfl | rfl
  · exact ⟨_, rfl, fun H3 Qn s3 told => ⟨_, rfl, _, rfl, sz0, fun q hq => ⟨f, ls, far, rfl, (s3.trans (Rs.Same.new hq)) _ _ ef, few, rfl, .inl ((ref_room eR g bad told).same (Rs.Same.new hq))⟩⟩⟩
  · exact ⟨_, rfl, fun H3 Qn s3 told => ⟨_, rfl, _, rfl, f, ls, far, rfl, s3 _ _ ef, few, rfl, ref_room eR g bad told⟩⟩
  · exact ⟨_, rfl, fun H3 Qn s3 told => ⟨_, rfl, _, rfl, f, ls, far, rfl, s3 _ _ ef, few, rfl, ref_room eR g bad told⟩⟩
  · exact ⟨_, rfl, fun H3 Qn s3 told => ⟨_, rfl, _, rfl, f, ls, far, rfl, s3 _ _ ef, few, rfl, ref_room eR g bad told⟩⟩
  · refine ⟨_, rfl, fun H3 Qn s3 told => ⟨_, rfl, _, rfl, szle (by show 3 ≤ 100000; decide), fun t ht => ⟨szle (by show 1 ≤ 100000; decide), fun q hq => ?_⟩⟩⟩
    have s4 : Same H3 (upd (upd H3 t (.tup [.int 9, .int 9, .int 9])) q (.lst [.ref t])) := (Rs.Same.new ht).trans (Rs.Same.new hq)
    exact ⟨f, ls, far, rfl, (s3.trans s4) _ _ ef, few, rfl, (ref_room eR g bad told).same s4⟩
  · exact ⟨_, rfl, fun H3 Qn s3 told => ⟨_, rfl, _, rfl, sz0, fun q hq => ⟨f, ls, far, rfl, (s3.trans (Rs.Same.new hq)) _ _ ef, few, rfl, .inl ((ref_room eR g bad told).same (Rs.Same.new hq))⟩⟩⟩
  · exact ⟨_, rfl, fun H3 Qn s3 told => ⟨_, rfl, _, rfl, f, ls, far, rfl, s3 _ _ ef, few, rfl, ref_room eR g bad told⟩⟩
theorem st3 (eL : ErrIs K "BadLengths") (eR : ErrIs K "BadRoom") (A : At7 K H a l f ls)
    (k : ∀ σ' H', Turn7 K s a l σ' H' → EN.nx σ' H') : tS3 K LS E EN [some (.ref s), some (.ref a), x2, some (.ref f), x4, x5, x6, x7, x8, x9, x10, x11, x12, x13] H := by
  unfold tS3
  refine ⟨_, rfl, _, _, rfl, rfl, ⟨by decide, by decide, by decide⟩, a, l, _, rfl, rfl, by decide, by decide, A.B, fun m H1 m0 m1 B1 k1 => ⟨_, _, rfl, rfl, szle (by show 5 ≤ 100000; decide), fun q hq => ?_⟩⟩
  have A1 := A.but k1 B1
  have fq := A1.B.fresh hq
  dsimp only
  have s2 : Same H1 (upd H1 q (.lst [.int 1, .int 0, .int 7, .int (7 + m), .int (-1)])) := Rs.Same.new hq
  have e2 : upd H1 q (.lst [.int 1, .int 0, .int 7, .int (7 + m), .int (-1)]) q = some _ := upd_same
  generalize upd H1 q (.lst [.int 1, .int 0, .int 7, .int (7 + m), .int (-1)]) = H2 at s2 e2 ⊢
  have A2 := A1.same s2
  refine ⟨_, rfl, a, l, _, rfl, rfl, by decide, by decide, A2.B, fun r H3 r0 r1 B3 k3 => ?_⟩
  have A3 := A2.but k3 B3
  obtain ⟨far, hf, bad⟩ : ∃ far : Int, ([.int 1, .int 0, .int 7, .int (7 + m), .int (-1)] : List V)[r.toNat]? = some (.int far) ∧ ¬ (2 ≤ far ∧ far ≤ 6) := by
    have : r = 0 ∨ r = 1 ∨ r = 2 ∨ r = 3 ∨ r = 4 := by omega
    rcases this with rfl | rfl | rfl | rfl | rfl
    · exact ⟨_, rfl, by decide⟩
    · exact ⟨_, rfl, by decide⟩
    · exact ⟨_, rfl, by decide⟩
    · exact ⟨_, rfl, by omega⟩
    · exact ⟨_, rfl, by decide⟩
  exact ixL (k3 _ _ e2 fq) (show r = ((r.toNat : Nat) : Int) by omega) hf (gName_in (st3b (E := E) eL eR A3 bad k))
theorem st2b (eL : ErrIs K "BadLengths") (eR : ErrIs K "BadRoom") (eP : ErrIs K "BadPlan") {w : Nat} {pv : V} {p0 : Pl} (A : At7 K H a l f ls) (w2 : 2 ≤ w) (w6 : w ≤ 6) (hp0 : PlR H pv p0) (sp0 : SmallP p0) (bad : ¬ PlanOk w ls.length p0)
    (k : ∀ σ' H', Turn7 K s a l σ' H' → EN.nx σ' H') : tS2b K LS E EN [some (.ref s), some (.ref a), x2, some (.ref f), some (.int (w : Int)), x5, x6, x7, some pv, x9, x10, x11, x12, x13] H := by
  have few : ls.length ≤ 1000 := by have := A.g.le; omega
  have d0 := sp0.d
  have r0 := sp0.r
  unfold tS2b
  refine seq_in (asg_in (worksNew2 (K := K) A.T fun p H0 H1 e0 T0 hp s1 W1 => ?_))
  have e1 := e0.trans (extS s1)
  have A1 := A.ext e1 (tabs_same T0 s1)
  have hp1 := PlR.st _ _ _ _ (extN_tup e1) hp0
  dsimp only [List.set]
  refine seq_in ?_
  unfold tIfS tNot tB
  refine worksAll rfl W1 (fun j hj => ?_) (fun H7 s7 => ⟨_, rfl, ?_⟩)
  rotate_left
  · exact st3 (E := E) eL eR (A1.same s7) k
  have ef := A1.e
  have g := A1.g
  simp only [List.mem_cons, List.not_mem_nil, or_false] at hj
  rcases hj with rfl | rfl
  · exact ⟨_, rfl, fun H3 Qn s3 told => ⟨_, rfl, _, rfl, _, rfl, f, ls, w, rfl, s3 _ _ ef, few, rfl, .inr ⟨g, by omega, by omega, w, p0, rfl, PlR.st _ _ _ _ (TupLe.same s3) hp1, by omega, sp0.s, by omega, fun z => (bad z).elim, fun _ H4 s4 => rErr_plain eP (by decide) fun u H5 hu s5 e => told u H5 (s4.trans s5) e⟩⟩⟩
  · exact ⟨_, rfl, fun H3 Qn s3 told => ⟨_, rfl, _, rfl, _, rfl, f, ls, w, rfl, s3 _ _ ef, few, rfl, .inr ⟨g, by omega, by omega, w, p0, rfl, PlR.st _ _ _ _ (TupLe.same s3) hp1, by omega, sp0.s, by omega, bad, fun H4 s4 => rErr_plain eP (by decide) fun u H5 hu s5 e => told u H5 (s4.trans s5) e⟩⟩⟩
theorem st2 (eL : ErrIs K "BadLengths") (eR : ErrIs K "BadRoom") (eP : ErrIs K "BadPlan") {w : Nat} {pv : V} {pl : Pl} (A : At7 K H a l f ls) (w2 : 2 ≤ w) (w6 : w ≤ 6) (hp : PlR H pv pl) (fit : pl.fits w = true) (pm : pl.runs.Perm (rng 0 ls.length))
    (k : ∀ σ' H', Turn7 K s a l σ' H' → EN.nx σ' H') : tS2 K LS E EN [some (.ref s), some (.ref a), x2, some (.ref f), some (.int (w : Int)), some pv, x6, x7, x8, x9, x10, x11, x12, x13] H := by
  unfold tS2
  refine ⟨_, rfl, _, rfl, lenL A.e (by rw [List.length_map]) ⟨_, rfl, _, rfl, a, l, ls.length, w, pl, rfl, rfl, rfl, w2, w6, A.B, hp, fit, pm, A.g.pos, A.g.le, fun v p0 H1 h0 s0 bad B1 k1 => ?_⟩⟩
  exact gName_in (st2b (E := E) eL eR eP (A.but k1 B1) w2 w6 h0 s0 bad k)
end
theorem sumOf_nn {ls : List Int} (h : ∀ i : Nat, 0 ≤ ls.getD i 0) : ∀ ids : List Int, 0 ≤ sumOf ls ids ∧ ∀ r ∈ ids, ls.getD r.toNat 0 ≤ sumOf ls ids
  | [] => ⟨by unfold sumOf; simp, fun r hr => nomatch hr⟩
  | x :: ids => by
    obtain ⟨a, b⟩ := sumOf_nn h ids
    have e : sumOf ls (x :: ids) = ls.getD x.toNat 0 + sumOf ls ids := by unfold sumOf; rw [List.map_cons, List.sum_cons]
    have hx := h x.toNat
    rw [e]
    refine ⟨by omega, fun r hr => ?_⟩
    rcases List.mem_cons.mp hr with rfl | hr
    · omega
    · have := b r hr
      omega
mutual
theorem cost_nn {ls : List Int} (h : ∀ i : Nat, 0 ≤ ls.getD i 0) : ∀ p : Pl, 0 ≤ p.cost ls
  | .leaf _ => by rw [Pl.cost]; exact Int.le_refl 0
  | .node ps => by
    rw [Pl.cost]
    have a := cost_nnL h ps
    have b := (sumOf_nn h (Pl.runsL ps)).1
    omega
theorem cost_nnL {ls : List Int} (h : ∀ i : Nat, 0 ≤ ls.getD i 0) : ∀ ps : List Pl, 0 ≤ Pl.costL ls ps
  | [] => by rw [Pl.costL]; exact Int.le_refl 0
  | p :: ps => by
    rw [Pl.costL]
    have a := cost_nn h p
    have b := cost_nnL h ps
    omega
end
theorem rng40 : (rng 0 40).length = 40 := by decide +kernel
theorem cost_ones {pl : Pl} (pm : pl.runs.Perm (rng 0 40)) : 0 < pl.cost (List.replicate 40 1) := by
  have h : ∀ i : Nat, 0 ≤ (List.replicate 40 (1 : Int)).getD i 0 := fun i => by
    rw [List.getD_eq_getElem?_getD, List.getElem?_replicate]
    split
    · exact (by decide : (0 : Int) ≤ 1)
    · exact Int.le_refl 0
  cases pl with
  | leaf n =>
    have := pm.length_eq
    rw [rng40, Pl.runs] at this
    exact nomatch this
  | node ps =>
    rw [Pl.runs] at pm
    rw [Pl.cost]
    have a := cost_nnL h ps
    have b := (sumOf_nn h (Pl.runsL ps)).2 0 (pm.mem_iff.mpr (by decide))
    have c : (List.replicate 40 (1 : Int)).getD (0 : Int).toNat 0 = 1 := by decide
    rw [c] at b
    omega
theorem pure_law {K : PySem.W.Frag} (eBadPlan : ErrIs K "BadPlan") (eBadRoom : ErrIs K "BadRoom") (eBadLengths : ErrIs K "BadLengths") : ∀ LS vs H Q E, sp_law K vs H Q E → t_law K LS E { nx := fun _ H' => Q .non H', rt := Q } (start N_law vs) H := by
  intro LS vs H Q E h
  match vs, h with
  | [sv], h =>
    obtain ⟨s, ns, rfl, hs, hn, TT, k⟩ := h
    refine ⟨_, rfl, s, ns, rfl, hs, hn, fun a l H1 ha hl B1 s1 => ?_⟩
    refine ⟨_, rfl, by decide, by decide, ?_⟩
    refine for_range (lo := 0) (n := (4 : Int).toNat) (fun i σ H' => Turn7 K s a l σ H') ⟨_, _, _, _, _, _, _, _, _, _, _, _, rfl, B1, tabs_same TT s1⟩ ?_ ?_
    · rintro i σ H' hi ⟨x2, x3, x4, x5, x6, x7, x8, x9, x10, x11, x12, x13, rfl, B, T⟩
      clear TT B1 s1 ha hl
      refine ⟨_, rfl, szle (by show 3 ≤ 100000; decide), fun q hq => ?_⟩
      have fq := B.fresh hq
      generalize gX : upd _ q _ = H2
      have s2 := newS hq gX
      have e2 := newE gX
      clear gX
      have B2 := B.same s2
      refine ⟨_, rfl, a, l, _, rfl, rfl, by decide, by decide, B2, fun r H3 r0 r1 B3 k3 => ?_⟩
      obtain ⟨m, hm, m1, m40⟩ : ∃ m : Int, ([V.int 6, V.int 20, V.int 40] : List V)[r.toNat]? = some (.int m) ∧ 1 ≤ m ∧ m ≤ 40 := by
        have : r = 0 ∨ r = 1 ∨ r = 2 := by omega
        rcases this with rfl | rfl | rfl
        · exact ⟨6, rfl, by decide, by decide⟩
        · exact ⟨20, rfl, by decide, by decide⟩
        · exact ⟨40, rfl, by decide, by decide⟩
      have T3 := tabs_but (tabs_same T s2) k3 B2.free
      refine ixL (k3 _ _ e2 fq) (show r = ((r.toNat : Nat) : Int) by omega) hm ⟨a, l, m, rfl, rfl, m1, m40, B3, fun f ls H4 hf ef g lm B4 k4 => ?_⟩
      have nf := B3.fresh hf
      have A4 : At7 K H4 a l f ls := ⟨B4, tabs_but T3 k4 B3.free, ef, nf, g⟩
      have g1 := g.pos
      have g4 := g.le
      clear hm m1 m40 lm r0 r1 T3 B2 B3 k3 k4 e2 s2 fq T B hf ef B4
      refine ⟨_, rfl, a, l, _, rfl, rfl, by decide, by decide, A4.B, fun w0 H5 w1 w5 B5 k5 => ⟨_, _, rfl, rfl, ?_⟩⟩
      obtain ⟨w, ew, w2, w6⟩ : ∃ w : Nat, 2 + w0 = (w : Int) ∧ 2 ≤ w ∧ w ≤ 6 := ⟨(2 + w0).toNat, by omega, by omega, by omega⟩
      dsimp only
      rw [ew]
      have A5 := A4.but k5 B5
      refine ⟨_, rfl, _, rfl, lenL A5.e (by rw [List.length_map]) ⟨_, rfl, RgOk.of_le (Int.le_refl _) (by omega) (by decide) (by omega), fun q1 hq1 => ?_⟩⟩
      have eq : rgV 0 ((ls.length : Nat) : Int) = (rng 0 ls.length).map V.int := by
        unfold rgV rng
        rw [List.map_map]
        rfl
      rw [eq]
      generalize gX : upd _ q1 _ = H6
      have s6 := newS hq1 gX
      have e6 := newE gX
      clear gX
      have A6 := A5.same s6
      refine ⟨_, rfl, a, l, q1, rng 0 ls.length, w, rfl, rfl, e6, rfl, w2, w6, by rw [rng_len]; omega, by rw [rng_len]; omega, A6.B, fun pv pl H7 hp fit pm B7 k7 => ?_⟩
      have A7 := A6.but k7 B7
      refine ⟨_, rfl, f, _, rfl, .inl (SqL.of A7.e), fun h8 hh8 => ?_⟩
      generalize gX : upd _ h8 _ = H8
      have s8 := newS hh8 gX
      have e8 := newE gX
      clear gX
      have A8 := A7.same s8
      have hp8 := PlR.st _ _ _ _ (TupLe.same s8) hp
      have rl := pm.length_eq
      rw [rng_len] at rl
      have dp := Pl.deep pl fit
      have sl := Pl.slim_fits (by omega) pl fit
      refine ⟨_, rfl, _, rfl, _, rfl, h8, ls, w, rfl, e8, by omega, rfl, .inr ⟨g, by omega, by omega, w, pl, rfl, hp8, by omega, sl, by omega, fun _ H9 s9 => ?_, fun z => (z ⟨fit, pm⟩).elim⟩⟩
      have A9 := A8.same s9
      have hp9 := PlR.st _ _ _ _ (TupLe.same s9) hp8
      refine ⟨_, rfl, _, rfl, _, rfl, f, ls, pl, rfl, A9.e, hp9, by omega, by omega, sl, by omega, (fun r hr => rng_in (pm.mem_iff.mp hr)), fun H10 s10 => ?_⟩
      have A10 := A9.same s10
      have ok := ints_ok (ns := ls) (by omega)
      refine ⟨.int (pl.cost ls), trivial, .int _, .int _, _, rfl, ?_⟩
      refine ⟨_, rfl, _, rfl, _, _, ints_dp ((s9.trans s10) _ _ e8), ints_dp A10.e, ok.shaped (by decide), ok.shaped (by decide), ?_⟩
      rw [ok.eqv]
      refine ⟨_, rfl, ?_⟩
      exact st2 (E := E) eBadLengths eBadRoom eBadPlan A10 w2 w6 (PlR.st _ _ _ _ (TupLe.same s10) hp9) fit pm fun σ' H' h => h
    · rintro σ H' ⟨x2, x3, x4, x5, x6, x7, x8, x9, x10, x11, x12, x13, rfl, B, T⟩
      refine ⟨szle (by show 1 ≤ 100000; decide), fun q hq => ⟨_, _, _, rfl, rfl, upd_same, by decide, by decide, szle (by show 1 * 40 ≤ 100000; decide), fun q2 hq2 => ?_⟩⟩
      have s1' : Same H' (upd H' q (.lst [.int 1])) := Rs.Same.new hq
      have e2v : (List.replicate (40 : Int).toNat [V.int 1]).flatten = (List.replicate 40 (1 : Int)).map V.int := by decide +kernel
      rw [e2v]
      have s2 : Same (upd H' q (.lst [.int 1])) (upd (upd H' q (.lst [.int 1])) q2 (.lst ((List.replicate 40 (1 : Int)).map V.int))) := Rs.Same.new hq2
      have e2 : upd (upd H' q (.lst [.int 1])) q2 (.lst ((List.replicate 40 (1 : Int)).map V.int)) q2 = some (.lst ((List.replicate 40 (1 : Int)).map V.int)) := upd_same
      have B2 := (B.same s1').same s2
      have n2 := (B.same s1').fresh hq2
      generalize upd (upd H' q (.lst [.int 1])) q2 (.lst ((List.replicate 40 (1 : Int)).map V.int)) = H2 at s2 e2 B2 ⊢
      refine ⟨_, rfl, _, rfl, RgOk.of_le (by decide) (by decide) (by decide) (by decide), fun q3 hq3 => ?_⟩
      have eq : rgV 0 (40 : Int) = (rng 0 40).map V.int := by
        unfold rgV rng
        rw [List.map_map]
        rfl
      rw [eq]
      have s3 : Same H2 (upd H2 q3 (.lst ((rng 0 40).map V.int))) := Rs.Same.new hq3
      have e3 : upd H2 q3 (.lst ((rng 0 40).map V.int)) q3 = some (.lst ((rng 0 40).map V.int)) := upd_same
      generalize upd H2 q3 (.lst ((rng 0 40).map V.int)) = H3 at s3 e3 ⊢
      have B3 := B2.same s3
      refine ⟨a, l, q3, rng 0 40, 6, rfl, rfl, e3, rfl, by decide, by decide, by rw [rng40]; decide, by rw [rng40]; decide, B3, fun pv pl H7 hp fit pm B7 k7 => ?_⟩
      have e7 := k7 _ _ (s3 _ _ e2) n2
      have rl := pm.length_eq
      rw [rng40] at rl
      have dp := Pl.deep pl fit
      have g : GoodLens (List.replicate 40 (1 : Int)) := ⟨by decide, by decide, fun x hx => by rw [List.eq_of_mem_replicate hx]; decide⟩
      refine ⟨q2, List.replicate 40 1, 6, rfl, e7, by decide, rfl, .inr ⟨g, by decide, by decide, 6, pl, rfl, hp, by omega, Pl.slim_fits (by decide) pl fit, by omega, fun _ H9 s9 => ?_, fun z => (z ⟨fit, pm⟩).elim⟩⟩
      have pos := cost_ones pm
      refine ⟨_, _, rfl, rfl, ?_⟩
      have ed : decide (pl.cost (List.replicate 40 1) > 0) = true := decide_eq_true pos
      refine ⟨.bool true, trivial, ?_, .bl true, k _⟩
      dsimp only
      rw [ed]
      exact .bl true
end Rs


namespace Lw
open PySem PySem.Spec PyProof.Rows L2 Rs LamX
structure Wd (K : PySem.W.Frag) (mg : Str → Option Value) (base : Heap) : Prop where
  c : Hx.SaysM fs fn K
  X : ∃ h : Heap, K.In h ∧ h.Ns mainGlobals mg
  tab : TabF K mg base Lms_k07
section
variable {K : PySem.W.Frag} {mg : Str → Option Value} {base : Heap}
theorem nodup_tabs (c : Hx.SaysM fs fn K) : ((tabs Lms_k07 K).map (·.1)).Nodup := of_decide_eq_true (c.fact 0 (f := fun K => decide ((tf.map fun p => (He.cT K p).2).Nodup)) rfl)
theorem Wd.err (W : Wd K mg base) (i : Nat) {x : Str} (h : fe[i]? = some x) : ErrIs K x := errB_ok (W.c.fact (i + 1) (f := fun K => Rs.errB x K) (by
  show (fe.map (fun x K => Rs.errB x K) ++ fr)[i]? = _
  rw [List.getElem?_append_left (by rw [List.length_map]; exact (List.getElem?_eq_some_iff.mp h).1), List.getElem?_map, h]; rfl))
theorem says_fact (c : Hx.SaysM fs fn K) (i : Nat) {f : He.Fa} (h : fa[i]? = some f) : f.ok K = true := c.fact (fe.length + i + 1) (f := fun K => f.ok K) (by
  show (fe.map (fun x K => Rs.errB x K) ++ fr)[fe.length + i]? = _
  rw [List.getElem?_append_right (by rw [List.length_map]; omega), List.length_map, Nat.add_sub_cancel_left]
  unfold fr
  rw [List.getElem?_map, h]; rfl)
theorem Wd.fact (W : Wd K mg base) (i : Nat) {f : He.Fa} (h : fa[i]? = some f) : f.ok K = true := says_fact W.c i h
theorem lms_tf (p : He.Defn × Str) (h : p ∈ Lms_k07) : p.1 ∈ tf := by
  have e : Lms_k07.map (·.1) = tf := rfl
  rw [← e]
  exact List.mem_map.mpr ⟨p, h, rfl⟩
theorem tabs_start (H : Hp) (h : ∀ p ∈ tf, H (He.cT K p).2 = some (.tbl #[])) : Tabs (tabs Lms_k07 K) H := fun q hq => by
  obtain ⟨p, hp, rfl⟩ := List.mem_map.mp hq
  exact TabS.nil (h _ (lms_tf p hp))
theorem Wd.glo (W : Wd K mg base) (i : Nat) {x : Str} (h : fa[i]? = some (.glo x)) : mg x = some (.ref (He.ga K x)) := let ⟨_, a, b⟩ := W.X; He.glo_ok a b (W.fact i h)
theorem Wd.free (W : Wd K mg base) (i : Nat) {x : Str} (h : fa[i]? = some (.free x)) : mg x = none := let ⟨_, a, b⟩ := W.X; He.free_ok a b (W.fact i h)
theorem Wd.int (W : Wd K mg base) (i : Nat) {x : Str} {z : Int} (h : fa[i]? = some (.int x z)) : ∃ t, mg x = some (.int z t) := let ⟨_, a, b⟩ := W.X; He.int_ok a b (W.fact i h)
theorem Wd.str (W : Wd K mg base) (i : Nat) {x z : Str} (h : fa[i]? = some (.str x z)) : ∃ t, mg x = some (.str z t) := let ⟨_, a, b⟩ := W.X; He.str_ok a b (W.fact i h)
theorem Wd.cls (W : Wd K mg base) (i : Nat) {x : Str} (h : fa[i]? = some (.cls x)) : Cls K (He.ga K x) := He.cls_ok (W.fact i h)
theorem Wd.noat (W : Wd K mg base) (i : Nat) {x f : Str} (h : fa[i]? = some (.noat x f)) : NoAttr K (He.ga K x) f := He.noat_ok (W.fact i h)
theorem Wd.meth (W : Wd K mg base) (i : Nat) {x m : Str} (h : fa[i]? = some (.meth x m)) : Meth K (He.ga K x) m (He.ma K (He.ga K x) m) := He.meth_ok (W.fact i h)
theorem Wd.exc (W : Wd K mg base) (i : Nat) {x : Str} (h : fa[i]? = some (.exc x)) : PySem.W.excIn K (He.ga K x) He.veBase "ValueError.__new__" = true ∧ PySem.W.keepIn K (.ref (He.ga K x)) = true ∧ PySem.W.subIn K (.ref (He.ga K x)) (.type "BaseException") = some true ∧ PySem.W.typeIn K (.ref (He.ga K x)) = some (.type "type") := He.exc_ok (W.fact i h)
theorem Wd.exm (W : Wd K mg base) (i : Nat) {x y : Str} {b : Bool} (h : fa[i]? = some (.exm x y b)) : PySem.W.exmOne K (.ref (He.ga K x)) (.ref (He.ga K y)) = some b := He.exm_ok (W.fact i h)
theorem Wd.mkr (W : Wd K mg base) (i : Nat) {x : Str} (h : fa[i]? = some (.mkr x)) : Mk K (He.ga K x) (He.ma K (He.ga K x) "__init__") := He.mkr_ok (W.fact i h)
end
/-! ### each def keeps its promise -/
section
variable {P : Program} {w : World} {K : PySem.W.Frag} {mg : Str → Option Value} {base : Heap}
theorem sc_law_begun : FnScope N_law_begun P_law_begun (defScope s_law_begun) := ⟨rfl, rfl, rfl, by decide +kernel, rfl, by decide +kernel, by decide +kernel⟩
theorem ok_law_begun (W : Wd K mg base) : Can P w K mg base 1 ("_law_begun", none) P_law_begun (sp_law_begun K) := by
  obtain ⟨fd, F⟩ := W.c.def_ 0 (d := d_law_begun) rfl
  refine can_of F (F.bindsN fun _ _ _ _ _ _ us hl => match us, hl with | [_], _ => rfl) sc_law_begun (fun vs H Q E h => by unfold sp_law_begun at h; match vs, h with | [_], _ => rfl) (t_law_begun K) (fun cdv A outer s H E hr => ?_) (pure_law_begun)
  have nd := sc_law_begun.nd
  exact (pss_cons (ps_set (i := 1) nd rfl (Or.inl rfl) pe_int)
    (pss_cons (ps_for (passes_of rfl) rfl (pi_list (pv 0)) (pg_name (i := 2) nd rfl (Or.inl rfl)) (pss_one (ps_set (i := 1) nd rfl (Or.inl rfl) (pe_opC op_mod (pe_opC op_add (pe_op op_add (pe_opC op_mul (pv 1) pe_int) (pe_opC op_mul (pv 2) pe_int)) pe_int) pe_int))))
    (pss_one (ps_ret (pe_lst (pa_cons (pe_callTy1 call_list_of (by rfl) (W.free 0 rfl) (by decide +kernel) (pv 0)) (pa_cons (pe_op op_mul (pv 1) (pe_callTy1 call_int1 (by rfl) (W.free 2 rfl) (by decide +kernel) (pe_cmpRC op_gt (pe_callB1 call_len_seq (by rfl) (W.free 1 rfl) (by decide +kernel) (pv 0)) pe_int (nomark _)))) pa_nil)))))))
theorem sc_law_take : FnScope N_law_take P_law_take (defScope s_law_take) := ⟨rfl, rfl, rfl, by decide +kernel, rfl, by decide +kernel, by decide +kernel⟩
theorem ok_law_take (W : Wd K mg base) : Can P w K mg base 1 ("_law_take", none) P_law_take (sp_law_take K) := by
  obtain ⟨fd, F⟩ := W.c.def_ 1 (d := d_law_take) rfl
  refine can_of F (F.bindsN fun _ _ _ _ _ _ us hl => match us, hl with | [_, _], _ => rfl) sc_law_take (fun vs H Q E h => by unfold sp_law_take at h; match vs, h with | [_, _], _ => rfl) (t_law_take K) (fun cdv A outer s H E hr => ?_) (pure_law_take)
  have nd := sc_law_take.nd
  exact (pss_cons (ps_if (pt_cmpR (opx_eqE (hu_of hr)) (pe_ixC ix_list (pv 0) pe_int (fun _ _ => rfl)) (pe_lst pa_nil) (nomark _)) (pss_cons (ps_asg (pe_opC op_mod (pe_opC op_mul (pe_ixC ix_list (pv 0) pe_int (fun _ _ => rfl)) pe_int) pe_int) (pg_subC (pv 0) pe_int set_list))
    (pss_one (ps_ret (pe_op op_mod (pe_opC op_fdivW (pe_ixC ix_list (pv 0) pe_int (fun _ _ => rfl)) pe_int) (pv 1))))) pss_nil)
    (pss_cons (ps_set (i := 2) nd rfl (Or.inl rfl) (pe_ixC ix_list (pe_ixC ix_list (pv 0) pe_int (fun _ _ => rfl)) pe_int (fun _ _ => rfl)))
    (pss_cons (ps_asg (pe_op op_fdivW (pv 2) (pv 1)) (pg_subC (pe_ixC ix_list (pv 0) pe_int (fun _ _ => rfl)) pe_int set_list))
    (pss_cons (ps_if (PW.pt (pw_or (pt_cmpRC op_eq (pe_ixC ix_list (pe_ixC ix_list (pv 0) pe_int (fun _ _ => rfl)) pe_int (fun _ _ => rfl)) pe_int (nomark _)) (pw_or1 (pt_cmpRC op_eq (pe_ixC ix_list (pe_ixC ix_list (pv 0) pe_int (fun _ _ => rfl)) pe_int (fun _ _ => rfl)) (pe_unN pe_int) (nomark _))))) (pss_one (ps_expr (pe_bm PySem.F.plainAttrs_list PySem.F.slot_list_pop PySem.F.type_list_pop mt_popAt (pe_ixC ix_list (pv 0) pe_int (fun _ _ => rfl)) (pa_consC pe_int pa_nil)))) pss_nil)
    (pss_one (ps_ret (pe_op op_mod (pv 2) (pv 1))))))))
theorem sc_law_lengths : FnScope N_law_lengths P_law_lengths (defScope s_law_lengths) := ⟨rfl, rfl, rfl, by decide +kernel, rfl, by decide +kernel, by decide +kernel⟩
theorem ok_law_lengths (W : Wd K mg base) : Can P w K mg base 2 ("_law_lengths", none) P_law_lengths (sp_law_lengths K) := by
  obtain ⟨fd, F⟩ := W.c.def_ 2 (d := d_law_lengths) rfl
  refine can_of F (F.bindsN fun _ _ _ _ _ _ us hl => match us, hl with | [_, _], _ => rfl) sc_law_lengths (fun vs H Q E h => by unfold sp_law_lengths at h; match vs, h with | [_, _], _ => rfl) (t_law_lengths K) (fun cdv A outer s H E hr => ?_) (pure_law_lengths)
  have nd := sc_law_lengths.nd
  exact (pss_cons (ps_set (i := 2) nd rfl (Or.inl rfl) (pe_lst pa_nil))
    (pss_cons (ps_for (passes_of rfl) rfl (pi_range1 (by rfl) (W.free 4 rfl) (pa_cons (pe_opD op_add pe_int (pe_callC (ok_law_take W) (hr.mono (by decide)) rfl (W.glo 3 rfl) (passes_call (takes_of rfl rfl rfl rfl) (fun _ _ _ _ h => h)) (pa_cons (pv 0) (pa_cons (pv 1) pa_nil)))) pa_nil)) (pg_name (i := 3) nd rfl (Or.inl rfl)) (pss_cons (ps_set (i := 4) nd rfl (Or.inl rfl) (pe_lst (pa_cons (pe_opD op_add pe_int (pe_callC (ok_law_take W) (hr.mono (by decide)) rfl (W.glo 3 rfl) (passes_call (takes_of rfl rfl rfl rfl) (fun _ _ _ _ h => h)) (pa_cons (pv 0) (pa_consC pe_int pa_nil)))) (pa_cons (pe_opD op_add pe_int (pe_callC (ok_law_take W) (hr.mono (by decide)) rfl (W.glo 3 rfl) (passes_call (takes_of rfl rfl rfl rfl) (fun _ _ _ _ h => h)) (pa_cons (pv 0) (pa_consC pe_int pa_nil)))) (pa_cons (pe_opC op_add (pv 3) pe_int) (pa_cons (pe_opD op_add pe_int (pe_callC (ok_law_take W) (hr.mono (by decide)) rfl (W.glo 3 rfl) (passes_call (takes_of rfl rfl rfl rfl) (fun _ _ _ _ h => h)) (pa_cons (pv 0) (pa_cons (pe_opC op_pow pe_int pe_int) pa_nil)))) (pa_cons (pe_opC op_pow pe_int pe_int) pa_nil)))))))
    (pss_one (ps_expr (pe_bm PySem.F.plainAttrs_list PySem.F.slot_list_append PySem.F.type_list_append mt_append (pv 2) (pa_cons (pe_ix ix_list (pv 4) (pe_ix ix_list (pe_lst (pa_consC pe_int (pa_consC pe_int (pa_consC pe_int (pa_consC pe_int (pa_consC pe_int (pa_consC pe_int pa_nil))))))) (pe_callC (ok_law_take W) (hr.mono (by decide)) rfl (W.glo 3 rfl) (passes_call (takes_of rfl rfl rfl rfl) (fun _ _ _ _ h => h)) (pa_cons (pv 0) (pa_consC pe_int pa_nil))) (fun _ _ => rfl)) (fun _ _ => rfl)) pa_nil))))))
    (pss_one (ps_ret (pv 2)))))
theorem sc_law_plan : FnScope N_law_plan P_law_plan (defScope s_law_plan) := ⟨rfl, rfl, rfl, by decide +kernel, rfl, by decide +kernel, by decide +kernel⟩
theorem ok_law_plan (W : Wd K mg base) : Can P w K mg base 2 ("_law_plan", none) P_law_plan (sp_law_plan K) := by
  obtain ⟨fd, F⟩ := W.c.def_ 3 (d := d_law_plan) rfl
  refine can_of F (F.bindsN fun _ _ _ _ _ _ us hl => match us, hl with | [_, _, _], _ => rfl) sc_law_plan (fun vs H Q E h => by unfold sp_law_plan at h; match vs, h with | [_, _, _], _ => rfl) (t_law_plan K) (fun cdv A outer s H E hr => ?_) (pure_law_plan)
  have nd := sc_law_plan.nd
  exact (pss_cons (ps_set (i := 3) nd rfl (Or.inr rfl) (pe_callTy1 call_list_of (by rfl) (W.free 0 rfl) (by decide +kernel) (pv 1)))
    (pss_cons (ps_while (passes_of rfl) (pt_cmpRC op_gt (pe_callB1 call_len_seq (by rfl) (W.free 1 rfl) (by decide +kernel) (pv 3)) pe_int (nomark _)) (pss_cons (ps_set (i := 4) nd rfl (Or.inl rfl) (pe_callB (call_min2 rfl) (by rfl) (W.free 5 rfl) (by decide +kernel) (pa_cons (pe_callB1 call_len_seq (by rfl) (W.free 1 rfl) (by decide +kernel) (pv 3)) (pa_cons (pe_opD op_add pe_int (pe_callC (ok_law_take W) (hr.mono (by decide)) rfl (W.glo 3 rfl) (passes_call (takes_of rfl rfl rfl rfl) (fun _ _ _ _ h => h)) (pa_cons (pv 0) (pa_cons (pe_opC op_sub (pv 2) pe_int) pa_nil)))) pa_nil))))
    (pss_cons (ps_setLc (i := 5) (own := [("_law_k", 6)]) rfl nd rfl rfl (sw_true rfl rfl rfl (by decide +kernel)) (pi_range1 (by rfl) (W.free 4 rfl) (pa_cons (pv 4) pa_nil)) (blkOk_by (own := [("_law_k", 6)]) (N := N_law_plan) (sc := defScope s_law_plan) (by decide +kernel)) (fun _ _ _ _ _ => (pg_name (i := 6) nd rfl (Or.inl rfl))) (fun _ _ _ _ _ => pts_nil) (fun _ _ _ _ _ => (pe_bm PySem.F.plainAttrs_list PySem.F.slot_list_pop PySem.F.type_list_pop mt_popAt (pv 3) (pa_cons (pe_callC (ok_law_take W) (hr.mono (by decide)) rfl (W.glo 3 rfl) passL (pa_cons (pv 0) (pa_cons (pe_callB1 call_len_seq (by rfl) (W.free 1 rfl) (by decide +kernel) (pv 3)) pa_nil))) pa_nil))))
    (pss_one (ps_expr (pe_bm PySem.F.plainAttrs_list PySem.F.slot_list_insert PySem.F.type_list_insert mt_insert (pv 3) (pa_cons (pe_callC (ok_law_take W) (hr.mono (by decide)) rfl (W.glo 3 rfl) (passes_call (takes_of rfl rfl rfl rfl) (fun _ _ _ _ h => h)) (pa_cons (pv 0) (pa_cons (pe_opC op_add (pe_callB1 call_len_seq (by rfl) (W.free 1 rfl) (by decide +kernel) (pv 3)) pe_int) pa_nil))) (pa_cons (pe_callTy1 call_tuple_of (by rfl) (W.free 6 rfl) (by decide +kernel) (pv 5)) pa_nil))))))))
    (pss_one (ps_ret (pe_ixC ix_list (pv 3) pe_int (fun _ _ => rfl))))))
theorem sc_need_lengthsX : FnScope N_need_lengthsX P_need_lengthsX (defScope s_need_lengthsX) := ⟨rfl, rfl, rfl, by decide +kernel, rfl, by decide +kernel, by decide +kernel⟩
theorem ok_need_lengthsX (W : Wd K mg base) : Can P w K mg base 1 ("need_lengths", none) P_need_lengthsX (sp_need_lengthsX K) := by
  obtain ⟨fd, F⟩ := W.c.def_ 4 (d := d_need_lengthsX) rfl
  refine can_of F (F.bindsN fun _ _ _ _ _ _ us hl => match us, hl with | [_], _ => rfl) sc_need_lengthsX (fun vs H Q E h => by unfold sp_need_lengthsX at h; match vs, h with | [_], _ => rfl) (t_need_lengthsX K) (fun cdv A outer s H E hr => ?_) (pure_need_lengthsX)
  have nd := sc_need_lengthsX.nd
  exact (pss_cons (ps_if (pt_not (pt_chain op_le op_le pe_int (pe_callB1 call_len_seq (by rfl) (W.free 1 rfl) (by decide +kernel) (pv 0)) (pe_gint rfl (W.int 7 rfl)))) (pss_one (ps_raiseE (W.exc 8 rfl) (W.glo 9 rfl) rfl rfl (takes_of rfl rfl rfl rfl))) pss_nil)
    (pss_one (ps_if (pt_cmpR (opx_neE (hu_of hr)) (pe_lc (own := [("length", 1)]) rfl nd (pi_list (pv 0)) (blkOk_by (own := [("length", 1)]) (N := N_need_lengthsX) (sc := defScope s_need_lengthsX) (by decide +kernel)) (fun _ _ _ _ _ => (pg_name (i := 1) nd rfl (Or.inl rfl))) (fun _ _ _ _ _ => (pts_one (pt_not (pt_chain op_le op_le pe_int (pv 1) (pe_gint rfl (W.int 10 rfl)))))) (fun _ _ _ _ _ => (pv 1))) (pe_lst pa_nil) (nomark _)) (pss_one (ps_raiseE (W.exc 8 rfl) (W.glo 9 rfl) rfl rfl (takes_of rfl rfl rfl rfl))) pss_nil)))
theorem sc_need_waysX : FnScope N_need_waysX P_need_waysX (defScope s_need_waysX) := ⟨rfl, rfl, rfl, by decide +kernel, rfl, by decide +kernel, by decide +kernel⟩
theorem ok_need_waysX (W : Wd K mg base) : Can P w K mg base 1 ("need_ways", none) P_need_waysX (sp_need_waysX K) := by
  obtain ⟨fd, F⟩ := W.c.def_ 5 (d := d_need_waysX) rfl
  refine can_of F (F.bindsN fun _ _ _ _ _ _ us hl => match us, hl with | [_], _ => rfl) sc_need_waysX (fun vs H Q E h => by unfold sp_need_waysX at h; match vs, h with | [_], _ => rfl) (t_need_waysX K) (fun cdv A outer s H E hr => ?_) (pure_need_waysX)
  have nd := sc_need_waysX.nd
  exact (pss_one (ps_if (pt_not (pt_chain op_le op_le (pe_gint rfl (W.int 11 rfl)) (pv 0) (pe_gint rfl (W.int 12 rfl)))) (pss_one (ps_raiseE (W.exc 13 rfl) (W.glo 14 rfl) rfl rfl (takes_of rfl rfl rfl rfl))) pss_nil))
theorem sc_are_merges : FnScope N_are_merges P_are_merges (defScope s_are_merges) := ⟨rfl, rfl, rfl, by decide +kernel, rfl, by decide +kernel, by decide +kernel⟩
theorem okr_are_merges (W : Wd K mg base) : ∀ d, Can P w K mg base (0 + d) ("are_merges", none) P_are_merges (spr_are_merges K d) := by
  obtain ⟨fd, F⟩ := W.c.def_ 6 (d := d_are_merges) rfl
  refine can_rec (lev := 0) F (F.bindsN fun _ _ _ _ _ _ us hl => match us, hl with | [_, _], _ => rfl) sc_are_merges (len_are_merges K) (no_are_merges K) (t_are_merges K) (fun d ih cdv A outer s H E hr => ?_) (fun d => pure_are_merges d)
  have nd := sc_are_merges.nd
  exact (pss_cons (ps_if (pt_not (pt_val (pe_isi (by rfl) (W.free 15 rfl) (pv 0) (pe_bltn (v := .ty "tuple") rfl (W.free 6 rfl) (by decide +kernel) rfl)))) (pss_one (ps_ret pe_bl)) pss_nil)
    (pss_one (ps_ret (pe_and (pe_chain op_le op_le (pe_gint rfl (W.int 11 rfl)) (pe_callB1 call_len_seq (by rfl) (W.free 1 rfl) (by decide +kernel) (pv 0)) (pv 1)) (pe_one (pe_cmpR (opx_eqE (hu_of hr)) (pe_lc (own := [("part", 2)]) rfl nd (pi_tup (pv 0)) (blkOk_by (own := [("part", 2)]) (N := N_are_merges) (sc := defScope s_are_merges) (by decide +kernel)) (fun _ _ _ _ _ => (pg_name (i := 2) nd rfl (Or.inl rfl))) (fun _ _ _ _ _ => (pts_one (pt_not (pt_val (pe_callC ih (hr.mono (by omega)) rfl (W.glo 16 rfl) passL (pa_cons (pv 2) (pa_cons (pv 1) pa_nil))))))) (fun _ _ _ _ _ => (pv 2))) (pe_lst pa_nil) (nomark _)))))))
theorem ok_are_merges (W : Wd K mg base) : Can P w K mg base 42 ("are_merges", none) P_are_merges (sp_are_merges K) := okr_are_merges W 42
theorem sc_runs_in : FnScope N_runs_in P_runs_in (defScope s_runs_in) := ⟨rfl, rfl, rfl, by decide +kernel, rfl, by decide +kernel, by decide +kernel⟩
theorem okr_runs_in (W : Wd K mg base) : ∀ d, Can P w K mg base (0 + d) ("runs_in", none) P_runs_in (spr_runs_in K d) := by
  obtain ⟨fd, F⟩ := W.c.def_ 7 (d := d_runs_in) rfl
  refine can_rec (lev := 0) F (F.bindsN fun _ _ _ _ _ _ us hl => match us, hl with | [_], _ => rfl) sc_runs_in (len_runs_in K) (no_runs_in K) (t_runs_in K) (fun d ih cdv A outer s H E hr => ?_) (fun d => pure_runs_in d)
  have nd := sc_runs_in.nd
  exact (pss_cons (ps_if (pt_not (pt_val (pe_isi (by rfl) (W.free 15 rfl) (pv 0) (pe_bltn (v := .ty "tuple") rfl (W.free 6 rfl) (by decide +kernel) rfl)))) (pss_one (ps_ret (pe_lst (pa_cons (pv 0) pa_nil)))) pss_nil)
    (pss_cons (ps_set (i := 1) nd rfl (Or.inl rfl) (pe_lst pa_nil))
    (pss_cons (ps_for (passes_of rfl) rfl (pi_tup (pv 0)) (pg_name (i := 2) nd rfl (Or.inl rfl)) (pss_one (ps_expr (pe_bm PySem.F.plainAttrs_list PySem.F.slot_list_extend PySem.F.type_list_extend mt_extend (pv 1) (pa_cons (pe_callC ih (hr.mono (by omega)) rfl (W.glo 17 rfl) (passes_call (takes_of rfl rfl rfl rfl) (fun _ _ _ _ h => h)) (pa_cons (pv 2) pa_nil)) pa_nil)))))
    (pss_one (ps_ret (pv 1))))))
theorem ok_runs_in (W : Wd K mg base) : Can P w K mg base 42 ("runs_in", none) P_runs_in (sp_runs_in K) := okr_runs_in W 42
theorem sc_rows_in : FnScope N_rows_in P_rows_in (defScope s_rows_in) := ⟨rfl, rfl, rfl, by decide +kernel, rfl, by decide +kernel, by decide +kernel⟩
theorem ok_rows_in (W : Wd K mg base) : Can P w K mg base 43 ("rows_in", none) P_rows_in (sp_rows_in K) := by
  obtain ⟨fd, F⟩ := W.c.def_ 8 (d := d_rows_in) rfl
  refine can_of F (F.bindsN fun _ _ _ _ _ _ us hl => match us, hl with | [_, _], _ => rfl) sc_rows_in (fun vs H Q E h => by unfold sp_rows_in at h; match vs, h with | [_, _], _ => rfl) (t_rows_in K) (fun cdv A outer s H E hr => ?_) (pure_rows_in)
  have nd := sc_rows_in.nd
  exact (pss_one (ps_ret (pe_callB1 (cr_sum rfl) (by rfl) (W.free 18 rfl) (by decide +kernel) (pe_lc (own := [("run", 2)]) rfl nd (pi_list (pe_callC (ok_runs_in W) (hr.mono (by decide)) rfl (W.glo 17 rfl) (passes_call (takes_of rfl rfl rfl rfl) (fun _ _ _ _ h => h)) (pa_cons (pv 1) pa_nil))) (blkOk_by (own := [("run", 2)]) (N := N_rows_in) (sc := defScope s_rows_in) (by decide +kernel)) (fun _ _ _ _ _ => (pg_name (i := 2) nd rfl (Or.inl rfl))) (fun _ _ _ _ _ => pts_nil) (fun _ _ _ _ _ => (pe_ix ix_list (pv 0) (pv 2) (fun _ _ => rfl)))))))
theorem sc_moved : FnScope N_moved P_moved (defScope s_moved) := ⟨rfl, rfl, rfl, by decide +kernel, rfl, by decide +kernel, by decide +kernel⟩
theorem okr_moved (W : Wd K mg base) : ∀ d, Can P w K mg base (43 + d) ("moved", none) P_moved (spr_moved K d) := by
  obtain ⟨fd, F⟩ := W.c.def_ 9 (d := d_moved) rfl
  refine can_rec (lev := 43) F (F.bindsN fun _ _ _ _ _ _ us hl => match us, hl with | [_, _], _ => rfl) sc_moved (len_moved K) (no_moved K) (t_moved K) (fun d ih cdv A outer s H E hr => ?_) (fun d => pure_moved d)
  have nd := sc_moved.nd
  exact (pss_cons (ps_if (pt_not (pt_val (pe_isi (by rfl) (W.free 15 rfl) (pv 1) (pe_bltn (v := .ty "tuple") rfl (W.free 6 rfl) (by decide +kernel) rfl)))) (pss_one (ps_ret pe_int)) pss_nil)
    (pss_one (ps_ret (pe_op op_add (pe_callC (ok_rows_in W) (hr.mono (by omega)) rfl (W.glo 19 rfl) (passes_call (takes_of rfl rfl rfl rfl) (fun _ _ _ _ h => h)) (pa_cons (pv 0) (pa_cons (pv 1) pa_nil))) (pe_callB1 (cr_sum rfl) (by rfl) (W.free 18 rfl) (by decide +kernel) (pe_lc (own := [("part", 2)]) rfl nd (pi_tup (pv 1)) (blkOk_by (own := [("part", 2)]) (N := N_moved) (sc := defScope s_moved) (by decide +kernel)) (fun _ _ _ _ _ => (pg_name (i := 2) nd rfl (Or.inl rfl))) (fun _ _ _ _ _ => pts_nil) (fun _ _ _ _ _ => (pe_callC ih (hr.mono (by omega)) rfl (W.glo 20 rfl) passL (pa_cons (pv 0) (pa_cons (pv 2) pa_nil))))))))))
theorem ok_moved (W : Wd K mg base) : Can P w K mg base 85 ("moved", none) P_moved (sp_moved K) := okr_moved W 42
theorem sc_costY : FnScope N_costY P_costY (defScope s_costY) := ⟨rfl, rfl, rfl, by decide +kernel, rfl, by decide +kernel, by decide +kernel⟩
theorem ok_costY (W : Wd K mg base) : Can P w K mg base 86 ("cost", none) P_costY (sp_costY K) := by
  obtain ⟨fd, F⟩ := W.c.def_ 10 (d := d_costY) rfl
  refine can_of F (F.bindsN fun _ _ _ _ _ _ us hl => match us, hl with | [_, _, _], _ => rfl) sc_costY (fun vs H Q E h => by unfold sp_costY at h; match vs, h with | [_, _, _], _ => rfl) (t_costY K) (fun cdv A outer s H E hr => ?_) (pure_costY)
  have nd := sc_costY.nd
  exact (pss_cons (ps_expr (pe_callC (ok_need_lengthsX W) (hr.mono (by decide)) rfl (W.glo 21 rfl) (passes_call (takes_of rfl rfl rfl rfl) (fun _ _ _ _ h => h)) (pa_cons (pv 0) pa_nil)))
    (pss_cons (ps_expr (pe_callC (ok_need_waysX W) (hr.mono (by decide)) rfl (W.glo 22 rfl) (passes_call (takes_of rfl rfl rfl rfl) (fun _ _ _ _ h => h)) (pa_cons (pv 1) pa_nil)))
    (pss_cons (ps_if (PW.pt (pw_or (pt_cmpR (op_neD (hu64 hr)) (pe_callB1 cr_sortedI (by rfl) (W.free 23 rfl) (by decide +kernel) (pe_callC (ok_runs_in W) (hr.mono (by decide)) rfl (W.glo 17 rfl) (passes_call (takes_of rfl rfl rfl rfl) (fun _ _ _ _ h => h)) (pa_cons (pv 2) pa_nil))) (pe_listRg rfl rfl (W.free 0 rfl) (prg_1 rfl (W.free 4 rfl) (pe_callB1 call_len_seq (by rfl) (W.free 1 rfl) (by decide +kernel) (pv 0)))) (nomark _)) (pw_or1 (pt_not (pt_val (pe_callC (ok_are_merges W) (hr.mono (by decide)) rfl (W.glo 16 rfl) (passes_call (takes_of rfl rfl rfl rfl) (fun _ _ _ _ h => h)) (pa_cons (pv 2) (pa_cons (pv 1) pa_nil)))))))) (pss_one (ps_raiseE (W.exc 24 rfl) (W.glo 25 rfl) rfl rfl (takes_of rfl rfl rfl rfl))) pss_nil)
    (pss_one (ps_ret (pe_callC (ok_moved W) (hr.mono (by decide)) rfl (W.glo 20 rfl) (passes_call (takes_of rfl rfl rfl rfl) (fun _ _ _ _ h => h)) (pa_cons (pv 0) (pa_cons (pv 2) pa_nil))))))))
theorem sc_law_in : FnScope N_law_in P_law_in (defScope s_law_in) := ⟨rfl, rfl, rfl, by decide +kernel, rfl, by decide +kernel, by decide +kernel⟩
theorem okr_law_in (W : Wd K mg base) : ∀ d, Can P w K mg base (0 + d) ("_law_in", none) P_law_in (spr_law_in K d) := by
  obtain ⟨fd, F⟩ := W.c.def_ 11 (d := d_law_in) rfl
  refine can_rec (lev := 0) F (F.bindsN fun _ _ _ _ _ _ us hl => match us, hl with | [_], _ => rfl) sc_law_in (len_law_in K) (no_law_in K) (t_law_in K) (fun d ih cdv A outer s H E hr => ?_) (fun d => pure_law_in d)
  have nd := sc_law_in.nd
  exact (pss_cons (ps_if (pt_not (pt_val (pe_isi (by rfl) (W.free 15 rfl) (pv 0) (pe_bltn (v := .ty "tuple") rfl (W.free 6 rfl) (by decide +kernel) rfl)))) (pss_one (ps_ret (pe_lst (pa_cons (pv 0) pa_nil)))) pss_nil)
    (pss_cons (ps_set (i := 1) nd rfl (Or.inl rfl) (pe_lst pa_nil))
    (pss_cons (ps_for (passes_of rfl) rfl (pi_tup (pv 0)) (pg_name (i := 2) nd rfl (Or.inl rfl)) (pss_one (ps_expr (pe_bm PySem.F.plainAttrs_list PySem.F.slot_list_extend PySem.F.type_list_extend mt_extend (pv 1) (pa_cons (pe_callC ih (hr.mono (by omega)) rfl (W.glo 26 rfl) (passes_call (takes_of rfl rfl rfl rfl) (fun _ _ _ _ h => h)) (pa_cons (pv 2) pa_nil)) pa_nil)))))
    (pss_one (ps_ret (pv 1))))))
theorem ok_law_in (W : Wd K mg base) : Can P w K mg base 42 ("_law_in", none) P_law_in (sp_law_in K) := okr_law_in W 42
theorem sc_law_fits : FnScope N_law_fits P_law_fits (defScope s_law_fits) := ⟨rfl, rfl, rfl, by decide +kernel, rfl, by decide +kernel, by decide +kernel⟩
theorem okr_law_fits (W : Wd K mg base) : ∀ d, Can P w K mg base (0 + d) ("_law_fits", none) P_law_fits (spr_law_fits K d) := by
  obtain ⟨fd, F⟩ := W.c.def_ 12 (d := d_law_fits) rfl
  refine can_rec (lev := 0) F (F.bindsN fun _ _ _ _ _ _ us hl => match us, hl with | [_, _], _ => rfl) sc_law_fits (len_law_fits K) (no_law_fits K) (t_law_fits K) (fun d ih cdv A outer s H E hr => ?_) (fun d => pure_law_fits d)
  have nd := sc_law_fits.nd
  exact (pss_cons (ps_if (pt_not (pt_val (pe_isi (by rfl) (W.free 15 rfl) (pv 0) (pe_bltn (v := .ty "tuple") rfl (W.free 6 rfl) (by decide +kernel) rfl)))) (pss_one (ps_ret pe_bl)) pss_nil)
    (pss_cons (ps_setLc (i := 2) (own := [("_law_part", 3)]) rfl nd rfl rfl (sw_true rfl rfl rfl (by decide +kernel)) (pi_tup (pv 0)) (blkOk_by (own := [("_law_part", 3)]) (N := N_law_fits) (sc := defScope s_law_fits) (by decide +kernel)) (fun _ _ _ _ _ => (pg_name (i := 3) nd rfl (Or.inl rfl))) (fun _ _ _ _ _ => (pts_one (pt_not (pt_val (pe_callC ih (hr.mono (by omega)) rfl (W.glo 27 rfl) passL (pa_cons (pv 3) (pa_cons (pv 1) pa_nil))))))) (fun _ _ _ _ _ => (pv 3)))
    (pss_one (ps_ret (pe_and (pe_chain op_le op_le pe_int (pe_callB1 call_len_seq (by rfl) (W.free 1 rfl) (by decide +kernel) (pv 0)) (pv 1)) (pe_one (pe_cmpR (opx_eqE (hu_of hr)) (pv 2) (pe_lst pa_nil) (nomark _))))))))
theorem ok_law_fits (W : Wd K mg base) : Can P w K mg base 42 ("_law_fits", none) P_law_fits (sp_law_fits K) := okr_law_fits W 42
theorem sc_law_bad : FnScope N_law_bad P_law_bad (defScope s_law_bad) := ⟨rfl, rfl, rfl, by decide +kernel, rfl, by decide +kernel, by decide +kernel⟩
theorem ok_law_bad (W : Wd K mg base) : Can P w K mg base 43 ("_law_bad", none) P_law_bad (sp_law_bad K) := by
  obtain ⟨fd, F⟩ := W.c.def_ 13 (d := d_law_bad) rfl
  refine can_of F (F.bindsN fun _ _ _ _ _ _ us hl => match us, hl with | [_, _, _, _], _ => rfl) sc_law_bad (fun vs H Q E h => by unfold sp_law_bad at h; match vs, h with | [_, _, _, _], _ => rfl) (t_law_bad K) (fun cdv A outer s H E hr => ?_) (pure_law_bad)
  have nd := sc_law_bad.nd
  exact (pss_cons (ps_set (i := 4) nd rfl (Or.inl rfl) (pe_lst (pa_cons (pe_tup (pa_cons (pv 3) (pa_cons (pv 1) pa_nil))) (pa_cons (pe_tup (pa_cons (pv 3) (pa_consC pe_int pa_nil))) (pa_cons (pe_tup (pa_cons (pv 3) (pa_consC (pe_unN pe_int) pa_nil))) (pa_cons (pe_tup (pa_cons (pv 3) pa_nil)) pa_nil))))))
    (pss_cons (ps_set (i := 4) nd rfl (Or.inl rfl) (pe_op op_cat (pv 4) (pe_lst (pa_cons (pe_tup (pa_cons (pv 3) (pa_cons (pe_tup pa_nil) pa_nil))) (pa_cons (pv 1) (pa_consC (pe_unN pe_int) pa_nil))))))
    (pss_cons (ps_set (i := 5) nd rfl (Or.inl rfl) (pe_callTy1 call_tuple_of (by rfl) (W.free 6 rfl) (by decide +kernel) (pe_op op_cat (pe_listRg rfl rfl (W.free 0 rfl) (prg_1 rfl (W.free 4 rfl) (pv 1))) (pe_listRg rfl rfl (W.free 0 rfl) (prg_2 rfl (W.free 4 rfl) (pv 1) (pe_opC op_add (pv 2) pe_int))))))
    (pss_cons (ps_set (i := 4) nd rfl (Or.inl rfl) (pe_op op_cat (pv 4) (pe_lst (pa_cons (pe_op op_repT (pe_tup (pa_consC pe_int pa_nil)) (pe_opC op_add (pv 2) pe_int)) (pa_cons (pe_ifExp (pt_cmpR op_le (pv 1) (pv 2) (nomark _)) (pv 5) (pe_tup (pa_cons (pv 3) pa_nil))) pa_nil)))))
    (pss_cons (ps_if (pt_val (pe_isi (by rfl) (W.free 15 rfl) (pv 3) (pe_bltn (v := .ty "tuple") rfl (W.free 6 rfl) (by decide +kernel) rfl))) (pss_cons (ps_set (i := 4) nd rfl (Or.inl rfl) (pe_op op_cat (pv 4) (pe_lst (pa_cons (pe_ixC ix_tup (pv 3) pe_int (fun _ _ => rfl)) (pa_cons (pe_slice sl_tupA (pv 3) po_none (po_some (pe_unN pe_int))) (pa_cons (pe_op op_catA (pv 3) (pe_slice sl_tupA (pv 3) po_none (po_some pe_int))) pa_nil))))))
    (pss_one (ps_set (i := 4) nd rfl (Or.inl rfl) (pe_op op_cat (pv 4) (pe_lst (pa_cons (pe_tup (pa_cons (pe_slice sl_tupA (pv 3) (po_some pe_int) po_none) (pa_cons (pe_ixC ix_tup (pv 3) pe_int (fun _ _ => rfl)) (pa_consC pe_int pa_nil)))) (pa_cons (pe_tup (pa_cons (pe_slice sl_tupA (pv 3) po_none (po_some pe_int)) (pa_cons (pe_slice sl_tupA (pv 3) (po_some pe_int) po_none) pa_nil))) pa_nil))))))) pss_nil)
    (pss_cons (ps_set (i := 6) nd rfl (Or.inl rfl) (pe_ix ix_list (pv 4) (pe_callC (ok_law_take W) (hr.mono (by decide)) rfl (W.glo 3 rfl) (passes_call (takes_of rfl rfl rfl rfl) (fun _ _ _ _ h => h)) (pa_cons (pv 0) (pa_cons (pe_callB1 call_len_seq (by rfl) (W.free 1 rfl) (by decide +kernel) (pv 4)) pa_nil))) (fun _ _ => rfl)))
    (pss_cons (ps_set (i := 7) nd rfl (Or.inl rfl) (pe_cmpR (op_eqD (hu64 hr)) (pe_callB1 cr_sortedI (by rfl) (W.free 23 rfl) (by decide +kernel) (pe_callC (ok_law_in W) (hr.mono (by decide)) rfl (W.glo 26 rfl) (passes_call (takes_of rfl rfl rfl rfl) (fun _ _ _ _ h => h)) (pa_cons (pv 6) pa_nil))) (pe_listRg rfl rfl (W.free 0 rfl) (prg_1 rfl (W.free 4 rfl) (pv 1))) (nomark _)))
    (pss_one (ps_ret (pe_ifExp (PW.pt (pw_and (pt_val (pv 7)) (pw_and1 (pt_val (pe_callC (ok_law_fits W) (hr.mono (by decide)) rfl (W.glo 27 rfl) (passes_call (takes_of rfl rfl rfl rfl) (fun _ _ _ _ h => h)) (pa_cons (pv 6) (pa_cons (pv 2) pa_nil))))))) (pe_tup (pa_cons (pv 3) pa_nil)) (pv 6)))))))))))
theorem sc_law_alike : FnScope N_law_alike P_law_alike (defScope s_law_alike) := ⟨rfl, rfl, rfl, by decide +kernel, rfl, by decide +kernel, by decide +kernel⟩
theorem okr_law_alike (W : Wd K mg base) : ∀ d, Can P w K mg base (0 + d) ("_law_alike", none) P_law_alike (spr_law_alike K d) := by
  obtain ⟨fd, F⟩ := W.c.def_ 14 (d := d_law_alike) rfl
  refine can_rec (lev := 0) F (F.bindsN fun _ _ _ _ _ _ us hl => match us, hl with | [_, _], _ => rfl) sc_law_alike (len_law_alike K) (no_law_alike K) (t_law_alike K) (fun d ih cdv A outer s H E hr => ?_) (fun d => pure_law_alike d)
  have nd := sc_law_alike.nd
  exact (pss_cons (ps_if (pt_cmpRC op_isN1 (pv 1) pe_non (nomark _)) (pss_one (ps_ret (pe_cmpRC op_isN1 (pv 0) pe_non (nomark _)))) pss_nil)
    (pss_cons (ps_if (pt_val (pe_isi (by rfl) (W.free 15 rfl) (pv 1) (pe_bltn (v := .ty "bool") rfl (W.free 28 rfl) (by decide +kernel) rfl))) (pss_one (ps_ret (pe_and (pe_isi (by rfl) (W.free 15 rfl) (pv 0) (pe_bltn (v := .ty "bool") rfl (W.free 28 rfl) (by decide +kernel) rfl)) (pe_one (pe_cmpR op_eq (pv 0) (pv 1) (nomark _)))))) pss_nil)
    (pss_cons (ps_if (pt_val (pe_isi (by rfl) (W.free 15 rfl) (pv 1) (pe_bltn (v := .ty "int") rfl (W.free 2 rfl) (by decide +kernel) rfl))) (pss_one (ps_ret (pe_and (pe_isi (by rfl) (W.free 15 rfl) (pv 0) (pe_bltn (v := .ty "int") rfl (W.free 2 rfl) (by decide +kernel) rfl)) (pe_and (pe_not (pe_isi (by rfl) (W.free 15 rfl) (pv 0) (pe_bltn (v := .ty "bool") rfl (W.free 28 rfl) (by decide +kernel) rfl))) (pe_one (pe_cmpR op_eq (pv 0) (pv 1) (nomark _))))))) pss_nil)
    (pss_cons (ps_if (pt_val (pe_isi (by rfl) (W.free 15 rfl) (pv 1) (pe_bltn (v := .ty "str") rfl (W.free 29 rfl) (by decide +kernel) rfl))) (pss_one (ps_ret (pe_and (pe_isi (by rfl) (W.free 15 rfl) (pv 0) (pe_bltn (v := .ty "str") rfl (W.free 29 rfl) (by decide +kernel) rfl)) (pe_one (pe_cmpR op_eq (pv 0) (pv 1) (nomark _)))))) pss_nil)
    (pss_cons (ps_if (PW.pt (pw_or (pt_cmpR op_ne (pe_isi (by rfl) (W.free 15 rfl) (pv 1) (pe_bltn (v := .ty "tuple") rfl (W.free 6 rfl) (by decide +kernel) rfl)) (pe_isi (by rfl) (W.free 15 rfl) (pv 0) (pe_bltn (v := .ty "tuple") rfl (W.free 6 rfl) (by decide +kernel) rfl)) (nomark _)) (pw_or1 (pt_cmpR op_ne (pe_isi (by rfl) (W.free 15 rfl) (pv 1) (pe_bltn (v := .ty "list") rfl (W.free 0 rfl) (by decide +kernel) rfl)) (pe_isi (by rfl) (W.free 15 rfl) (pv 0) (pe_bltn (v := .ty "list") rfl (W.free 0 rfl) (by decide +kernel) rfl)) (nomark _))))) (pss_one (ps_ret pe_bl)) pss_nil)
    (pss_cons (ps_if (pt_cmpR op_ne (pe_callB1 call_len_seq (by rfl) (W.free 1 rfl) (by decide +kernel) (pv 0)) (pe_callB1 call_len_seq (by rfl) (W.free 1 rfl) (by decide +kernel) (pv 1)) (nomark _)) (pss_one (ps_ret pe_bl)) pss_nil)
    (pss_cons (ps_for (passes_of rfl) rfl (pi_range1 (by rfl) (W.free 4 rfl) (pa_cons (pe_callB1 call_len_seq (by rfl) (W.free 1 rfl) (by decide +kernel) (pv 1)) pa_nil)) (pg_name (i := 2) nd rfl (Or.inl rfl)) (pss_one (ps_if (pt_not (pt_val (pe_callC ih (hr.mono (by omega)) rfl (W.glo 30 rfl) (passes_call (takes_of rfl rfl rfl rfl) (fun _ _ _ _ h => h)) (pa_cons (pe_ix ix_seq (pv 0) (pv 2) (fun _ _ => rfl)) (pa_cons (pe_ix ix_seq (pv 1) (pv 2) (fun _ _ => rfl)) pa_nil))))) (pss_one (ps_ret pe_bl)) pss_nil)))
    (pss_one (ps_ret pe_bl)))))))))
theorem ok_law_alike (W : Wd K mg base) : Can P w K mg base 45 ("_law_alike", none) P_law_alike (sp_law_alike K) := okr_law_alike W 45
theorem sc_law_class : FnScope N_law_class P_law_class (defScope s_law_class) := ⟨rfl, rfl, rfl, by decide +kernel, rfl, by decide +kernel, by decide +kernel⟩
theorem warm_law_class (W : Wd K mg base) : WarmFn P w K mg base "_law_class" N_law_class (t_law_class K) := by
  obtain ⟨fd, F⟩ := W.c.def_ 15 (d := d_law_class) rfl
  refine warm_of F (F.bindsN fun _ _ _ _ _ _ us hl => match us, hl with | [_], _ => rfl) sc_law_class (W.glo 31 rfl) (fun D a d oe C hz hf cdv A outer z H => ?_)
  have nd := sc_law_class.nd
  have hp : (a, oe) ∈ [(a, oe)] := List.mem_cons_self
  exact (pss_cons (ps_set (i := 1) nd rfl (Or.inl rfl) (pe_lst (pa_cons (pe_callB (call_isP C hz hf hp) (by rfl) (W.free 15 rfl) (by decide +kernel) (pa_cons (pv 0) (pa_consC (pe_gref rfl (W.glo 32 rfl)) pa_nil))) (pa_cons (pe_callB (call_isP C hz hf hp) (by rfl) (W.free 15 rfl) (by decide +kernel) (pa_cons (pv 0) (pa_consC (pe_gref rfl (W.glo 33 rfl)) pa_nil))) (pa_cons (pe_callB (call_isP C hz hf hp) (by rfl) (W.free 15 rfl) (by decide +kernel) (pa_cons (pv 0) (pa_consC (pe_gref rfl (W.glo 34 rfl)) pa_nil))) (pa_cons (pe_callB (call_isP C hz hf hp) (by rfl) (W.free 15 rfl) (by decide +kernel) (pa_cons (pv 0) (pa_consC (pe_gref rfl (W.glo 35 rfl)) pa_nil))) pa_nil))))))
    (pss_cons (ps_set (i := 1) nd rfl (Or.inl rfl) (pe_op op_cat (pv 1) (pe_lst (pa_cons (pe_callB (call_isP C hz hf hp) (by rfl) (W.free 15 rfl) (by decide +kernel) (pa_cons (pv 0) (pa_consC (pe_gref rfl (W.glo 14 rfl)) pa_nil))) (pa_cons (pe_callB (call_isP C hz hf hp) (by rfl) (W.free 15 rfl) (by decide +kernel) (pa_cons (pv 0) (pa_consC (pe_gref rfl (W.glo 9 rfl)) pa_nil))) (pa_cons (pe_callB (call_isP C hz hf hp) (by rfl) (W.free 15 rfl) (by decide +kernel) (pa_cons (pv 0) (pa_consC (pe_gref rfl (W.glo 25 rfl)) pa_nil))) (pa_cons (pe_callB (call_isP C hz hf hp) (by rfl) (W.free 15 rfl) (by decide +kernel) (pa_cons (pv 0) (pa_consC (pe_gref rfl (W.glo 36 rfl)) pa_nil))) pa_nil)))))))
    (pss_cons (ps_set (i := 1) nd rfl (Or.inl rfl) (pe_op op_cat (pv 1) (pe_lst (pa_cons (pe_callB (call_isP C hz hf hp) (by rfl) (W.free 15 rfl) (by decide +kernel) (pa_cons (pv 0) (pa_consC (pe_gref rfl (W.glo 37 rfl)) pa_nil))) (pa_cons (pe_callB (call_isP C hz hf hp) (by rfl) (W.free 15 rfl) (by decide +kernel) (pa_cons (pv 0) (pa_consC (pe_gref rfl (W.glo 38 rfl)) pa_nil))) (pa_cons (pe_callB (call_isP C hz hf hp) (by rfl) (W.free 15 rfl) (by decide +kernel) (pa_cons (pv 0) (pa_consC (pe_gref rfl (W.glo 39 rfl)) pa_nil))) (pa_cons (pe_callB (call_isP C hz hf hp) (by rfl) (W.free 15 rfl) (by decide +kernel) (pa_cons (pv 0) (pa_consC (pe_gref rfl (W.glo 40 rfl)) pa_nil))) pa_nil)))))))
    (pss_cons (ps_set (i := 1) nd rfl (Or.inl rfl) (pe_op op_cat (pv 1) (pe_lst (pa_cons (pe_callB (call_isP C hz hf hp) (by rfl) (W.free 15 rfl) (by decide +kernel) (pa_cons (pv 0) (pa_consC (pe_gref rfl (W.glo 41 rfl)) pa_nil))) (pa_cons (pe_callB (call_isP C hz hf hp) (by rfl) (W.free 15 rfl) (by decide +kernel) (pa_cons (pv 0) (pa_consC (pe_gref rfl (W.glo 42 rfl)) pa_nil))) (pa_cons (pe_callB (call_isP C hz hf hp) (by rfl) (W.free 15 rfl) (by decide +kernel) (pa_cons (pv 0) (pa_consC (pe_gref rfl (W.glo 43 rfl)) pa_nil))) pa_nil))))))
    (pss_cons (ps_set (i := 2) nd rfl (Or.inl rfl) (pe_lst (pa_consC pe_str (pa_consC pe_str (pa_consC pe_str (pa_consC pe_str (pa_consC pe_str (pa_consC pe_str (pa_consC pe_str (pa_consC pe_str (pa_consC pe_str pa_nil)))))))))))
    (pss_cons (ps_set (i := 2) nd rfl (Or.inl rfl) (pe_op op_cat (pv 2) (pe_lst (pa_consC pe_str (pa_consC pe_str (pa_consC pe_str (pa_consC pe_str (pa_consC pe_str (pa_consC pe_str pa_nil)))))))))
    (pss_one (ps_ret (pe_ifExp (PW.pt (pw_and (pt_cmpRC op_eq (pe_bm PySem.F.plainAttrs_list PySem.F.slot_list_count PySem.F.type_list_count mt_countF (pv 1) (pa_consC pe_bl pa_nil)) pe_int (nomark _)) (pw_and1 (pt_val (pe_callB (call_isP C hz hf hp) (by rfl) (W.free 15 rfl) (by decide +kernel) (pa_cons (pv 0) (pa_consC (pe_bltn (v := .ty "ValueError") rfl (W.free 44 rfl) (by decide +kernel) rfl) pa_nil))))))) (pe_ix ix_list (pv 2) (pe_bm PySem.F.plainAttrs_list PySem.F.slot_list_index PySem.F.type_list_index mt_index (pv 1) (pa_consC pe_bl pa_nil)) (fun _ _ => rfl)) pe_str)))))))))
theorem sc_law_told : FnScope N_law_told P_law_told (defScope s_law_told) := ⟨rfl, rfl, rfl, by decide +kernel, rfl, by decide +kernel, by decide +kernel⟩
theorem told_law_told (W : Wd K mg base) : ToldFn P w K mg base "_law_told" := by
  obtain ⟨fd, F⟩ := W.c.def_ 16 (d := d_law_told) rfl
  refine told_of F (F.bindsN fun _ _ _ _ _ _ us hl => match us, hl with | [_], _ => rfl) sc_law_told rfl (Or.inl rfl) (W.glo 46 rfl) (by decide) (by decide) (fun cdv X hP hw hK hm hB hr q => ?_)
  subst hP hw hK hm hB
  have nd := sc_law_told.nd
  refine told_does (y := "_law_work") (n := "_law_e") rfl (W.glo 45 rfl) (by decide) nd rfl rfl (fun _ => rfl) (fun s H a oe cls d pn hz hf => ?_) pure_law_told
  exact (pss_cons (ps_set (i := 2) nd rfl (Or.inl rfl) (pe_warmV (k := 0) (warm_law_class W) (room_suite hr) List.mem_cons_self hz hf rfl (pv 1)))
    (pss_cons (ps_if (pt_cmpRC op_eq (pv 2) pe_str (nomark _)) (pss_one (ps_ret (pe_tup (pa_cons (pv 2) (pa_cons (pe_errF hz hf (pv 1)) pa_nil))))) pss_nil)
    (pss_one (ps_ret (pe_tup (pa_cons (pv 2) (pa_cons (pe_ifExp (pt_cmpR op_in_seq (pv 2) (pe_tup (pa_consC pe_str (pa_consC pe_str pa_nil))) (by rfl)) (pe_errF hz hf (pv 1)) pe_int) pa_nil)))))))
theorem sc_law_all : FnScope N_law_all P_law_all (defScope s_law_all) := ⟨rfl, rfl, rfl, by decide +kernel, rfl, by decide +kernel, by decide +kernel⟩
theorem all_law_all (W : Wd K mg base) : AllFn P w K mg base "_law_all" "_law_told" N_law_all (t_law_all K) 45 := by
  obtain ⟨fd, F⟩ := W.c.def_ 17 (d := d_law_all) rfl
  refine all_of F (F.bindsN fun _ _ _ _ _ _ us hl => match us, hl with | [_, _], _ => rfl) sc_law_all (W.glo 47 rfl) (fun cdv X hP hw hK hm hB s H hr LS tt hT => ?_)
  subst hP hw hK hm hB
  have nd := sc_law_all.nd
  exact (pss_one (ps_ret (pe_cmpR (opx_eqE (hu_of hr)) (pe_lcU (own := [("_law_work", 2)]) rfl nd (pi_list (pv 0)) (blkOk_by (own := [("_law_work", 2)]) (N := N_law_all) (sc := defScope s_law_all) (by decide +kernel)) (fun _ _ _ _ _ => (pg_name (i := 2) nd rfl (Or.inl rfl))) (fun _ _ _ _ _ bk => (pts_one (pt_not (pt_val (pe_callC (ok_law_alike W) (hr.mono (by decide)) rfl (W.glo 30 rfl) passL (pa_cons (hT _ _ _ _ _ _ 2 _ _ _ _ bk rfl rfl (by first | exact Or.inl rfl | exact Or.inr (Or.inl rfl) | exact Or.inr (Or.inr rfl)) (by decide) (by decide) (by decide)) (pa_cons (pv 1) pa_nil))))))) (fun _ _ _ _ _ bk => (pv 2))) (pe_lst pa_nil) (nomark _))))
theorem sc_written_planX : FnScope N_written_planX P_written_planX (defScope s_written_planX) := ⟨rfl, rfl, rfl, by decide +kernel, rfl, by decide +kernel, by decide +kernel⟩
theorem ok_written_planX (W : Wd K mg base) : Can P w K mg base 87 ("written_plan", none) P_written_planX (sp_written_planX K) := by
  obtain ⟨fd, F⟩ := W.c.def_ 18 (d := d_written_planX) rfl
  refine can_of F (F.bindsN fun _ _ _ _ _ _ us hl => match us, hl with | [_, _, _], _ => rfl) sc_written_planX (fun vs H Q E h => by unfold sp_written_planX at h; match vs, h with | [_, _, _], _ => rfl) (t_written_planX K) (fun cdv A outer s H E hr => ?_) (pure_written_planX)
  have nd := sc_written_planX.nd
  exact (pss_cons (ps_expr (pe_callC (ok_costY W) (hr.mono (by decide)) rfl (W.glo 48 rfl) (passes_call (takes_of rfl rfl rfl rfl) (fun _ _ _ _ h => h)) (pa_cons (pv 0) (pa_cons (pv 1) (pa_cons (pv 2) pa_nil)))))
    pss_never)
theorem sc_cheapestX : FnScope N_cheapestX P_cheapestX (defScope s_cheapestX) := ⟨rfl, rfl, rfl, by decide +kernel, rfl, by decide +kernel, by decide +kernel⟩
theorem ok_cheapestX (W : Wd K mg base) : Can P w K mg base 2 ("cheapest", none) P_cheapestX (sp_cheapestX K) := by
  obtain ⟨fd, F⟩ := W.c.def_ 19 (d := d_cheapestX) rfl
  refine can_of F (F.bindsN fun _ _ _ _ _ _ us hl => match us, hl with | [_, _], _ => rfl) sc_cheapestX (fun vs H Q E h => by unfold sp_cheapestX at h; match vs, h with | [_, _], _ => rfl) (t_cheapestX K) (fun cdv A outer s H E hr => ?_) (pure_cheapestX)
  have nd := sc_cheapestX.nd
  exact (pss_cons (ps_expr (pe_callC (ok_need_lengthsX W) (hr.mono (by decide)) rfl (W.glo 21 rfl) (passes_call (takes_of rfl rfl rfl rfl) (fun _ _ _ _ h => h)) (pa_cons (pv 0) pa_nil)))
    (pss_cons (ps_expr (pe_callC (ok_need_waysX W) (hr.mono (by decide)) rfl (W.glo 22 rfl) (passes_call (takes_of rfl rfl rfl rfl) (fun _ _ _ _ h => h)) (pa_cons (pv 1) pa_nil)))
    pss_never))
theorem sc_neighboursX : FnScope N_neighboursX P_neighboursX (defScope s_neighboursX) := ⟨rfl, rfl, rfl, by decide +kernel, rfl, by decide +kernel, by decide +kernel⟩
theorem ok_neighboursX (W : Wd K mg base) : Can P w K mg base 2 ("neighbours", none) P_neighboursX (sp_neighboursX K) := by
  obtain ⟨fd, F⟩ := W.c.def_ 20 (d := d_neighboursX) rfl
  refine can_of F (F.bindsN fun _ _ _ _ _ _ us hl => match us, hl with | [_, _], _ => rfl) sc_neighboursX (fun vs H Q E h => by unfold sp_neighboursX at h; match vs, h with | [_, _], _ => rfl) (t_neighboursX K) (fun cdv A outer s H E hr => ?_) (pure_neighboursX)
  have nd := sc_neighboursX.nd
  exact (pss_cons (ps_expr (pe_callC (ok_need_lengthsX W) (hr.mono (by decide)) rfl (W.glo 21 rfl) (passes_call (takes_of rfl rfl rfl rfl) (fun _ _ _ _ h => h)) (pa_cons (pv 0) pa_nil)))
    (pss_cons (ps_expr (pe_callC (ok_need_waysX W) (hr.mono (by decide)) rfl (W.glo 22 rfl) (passes_call (takes_of rfl rfl rfl rfl) (fun _ _ _ _ h => h)) (pa_cons (pv 1) pa_nil)))
    pss_never))
theorem sc_paperX : FnScope N_paperX P_paperX (defScope s_paperX) := ⟨rfl, rfl, rfl, by decide +kernel, rfl, by decide +kernel, by decide +kernel⟩
theorem ok_paperX (W : Wd K mg base) : Can P w K mg base 2 ("paper", none) P_paperX (sp_paperX K) := by
  obtain ⟨fd, F⟩ := W.c.def_ 21 (d := d_paperX) rfl
  refine can_of F (F.bindsN fun _ _ _ _ _ _ us hl => match us, hl with | [_, _], _ => rfl) sc_paperX (fun vs H Q E h => by unfold sp_paperX at h; match vs, h with | [_, _], _ => rfl) (t_paperX K) (fun cdv A outer s H E hr => ?_) (pure_paperX)
  have nd := sc_paperX.nd
  exact (pss_cons (ps_expr (pe_callC (ok_need_lengthsX W) (hr.mono (by decide)) rfl (W.glo 21 rfl) (passes_call (takes_of rfl rfl rfl rfl) (fun _ _ _ _ h => h)) (pa_cons (pv 0) pa_nil)))
    (pss_cons (ps_expr (pe_callC (ok_need_waysX W) (hr.mono (by decide)) rfl (W.glo 22 rfl) (passes_call (takes_of rfl rfl rfl rfl) (fun _ _ _ _ h => h)) (pa_cons (pv 1) pa_nil)))
    pss_never))
theorem sc_boundX : FnScope N_boundX P_boundX (defScope s_boundX) := ⟨rfl, rfl, rfl, by decide +kernel, rfl, by decide +kernel, by decide +kernel⟩
theorem ok_boundX (W : Wd K mg base) : Can P w K mg base 2 ("bound", none) P_boundX (sp_boundX K) := by
  obtain ⟨fd, F⟩ := W.c.def_ 22 (d := d_boundX) rfl
  refine can_of F (F.bindsN fun _ _ _ _ _ _ us hl => match us, hl with | [_, _, _], _ => rfl) sc_boundX (fun vs H Q E h => by unfold sp_boundX at h; match vs, h with | [_, _, _], _ => rfl) (t_boundX K) (fun cdv A outer s H E hr => ?_) (pure_boundX)
  have nd := sc_boundX.nd
  exact (pss_cons (ps_expr (pe_callC (ok_need_lengthsX W) (hr.mono (by decide)) rfl (W.glo 21 rfl) (passes_call (takes_of rfl rfl rfl rfl) (fun _ _ _ _ h => h)) (pa_cons (pv 0) pa_nil)))
    (pss_cons (ps_expr (pe_callC (ok_need_waysX W) (hr.mono (by decide)) rfl (W.glo 22 rfl) (passes_call (takes_of rfl rfl rfl rfl) (fun _ _ _ _ h => h)) (pa_cons (pv 1) pa_nil)))
    pss_never))
theorem sc_read_planY : FnScope N_read_planY P_read_planY (defScope s_read_planY) := ⟨rfl, rfl, rfl, by decide +kernel, rfl, by decide +kernel, by decide +kernel⟩
theorem ok_read_planY (W : Wd K mg base) : Can P w K mg base 2 ("read_plan", none) P_read_planY (sp_read_planY K) := by
  obtain ⟨fd, F⟩ := W.c.def_ 23 (d := d_read_planY) rfl
  refine can_of F (F.bindsN fun _ _ _ _ _ _ us hl => match us, hl with | [_, _, _], _ => rfl) sc_read_planY (fun vs H Q E h => by unfold sp_read_planY at h; match vs, h with | [_, _, _], _ => rfl) (t_read_planY K) (fun cdv A outer s H E hr => ?_) (pure_read_planY)
  have nd := sc_read_planY.nd
  exact (pss_cons (ps_expr (pe_callC (ok_need_lengthsX W) (hr.mono (by decide)) rfl (W.glo 21 rfl) (passes_call (takes_of rfl rfl rfl rfl) (fun _ _ _ _ h => h)) (pa_cons (pv 0) pa_nil)))
    (pss_cons (ps_expr (pe_callC (ok_need_waysX W) (hr.mono (by decide)) rfl (W.glo 22 rfl) (passes_call (takes_of rfl rfl rfl rfl) (fun _ _ _ _ h => h)) (pa_cons (pv 1) pa_nil)))
    pss_never))
theorem sc_law_cost : FnScope N_law_cost P_law_cost (defScope s_law_cost) := ⟨rfl, rfl, rfl, by decide +kernel, rfl, by decide +kernel, by decide +kernel⟩
theorem okr_law_cost (W : Wd K mg base) : ∀ d, Can P w K mg base (42 + d) ("_law_cost", none) P_law_cost (spr_law_cost K d) := by
  obtain ⟨fd, F⟩ := W.c.def_ 24 (d := d_law_cost) rfl
  refine can_rec (lev := 42) F (F.bindsN fun _ _ _ _ _ _ us hl => match us, hl with | [_, _], _ => rfl) sc_law_cost (len_law_cost K) (no_law_cost K) (t_law_cost K) (fun d ih cdv A outer s H E hr => ?_) (fun d => pure_law_cost d)
  have nd := sc_law_cost.nd
  exact (pss_cons (ps_if (pt_not (pt_val (pe_isi (by rfl) (W.free 15 rfl) (pv 1) (pe_bltn (v := .ty "tuple") rfl (W.free 6 rfl) (by decide +kernel) rfl)))) (pss_one (ps_ret pe_int)) pss_nil)
    (pss_cons (ps_set (i := 2) nd rfl (Or.inl rfl) (pe_callB1 (cr_sum rfl) (by rfl) (W.free 18 rfl) (by decide +kernel) (pe_lc (own := [("_law_part", 3)]) rfl nd (pi_tup (pv 1)) (blkOk_by (own := [("_law_part", 3)]) (N := N_law_cost) (sc := defScope s_law_cost) (by decide +kernel)) (fun _ _ _ _ _ => (pg_name (i := 3) nd rfl (Or.inl rfl))) (fun _ _ _ _ _ => pts_nil) (fun _ _ _ _ _ => (pe_callC ih (hr.mono (by omega)) rfl (W.glo 49 rfl) passL (pa_cons (pv 0) (pa_cons (pv 3) pa_nil)))))))
    (pss_one (ps_ret (pe_op op_add (pv 2) (pe_callB1 (cr_sum rfl) (by rfl) (W.free 18 rfl) (by decide +kernel) (pe_lc (own := [("_law_run", 4)]) rfl nd (pi_list (pe_callC (ok_law_in W) (hr.mono (by omega)) rfl (W.glo 26 rfl) (passes_call (takes_of rfl rfl rfl rfl) (fun _ _ _ _ h => h)) (pa_cons (pv 1) pa_nil))) (blkOk_by (own := [("_law_run", 4)]) (N := N_law_cost) (sc := defScope s_law_cost) (by decide +kernel)) (fun _ _ _ _ _ => (pg_name (i := 4) nd rfl (Or.inl rfl))) (fun _ _ _ _ _ => pts_nil) (fun _ _ _ _ _ => (pe_ix ix_list (pv 0) (pv 4) (fun _ _ => rfl))))))))))
theorem ok_law_cost (W : Wd K mg base) : Can P w K mg base 84 ("_law_cost", none) P_law_cost (sp_law_cost K) := okr_law_cost W 42
theorem sc_law : FnScope N_law P_law (defScope s_law) := ⟨rfl, rfl, rfl, by decide +kernel, rfl, by decide +kernel, by decide +kernel⟩
theorem fn_law (W : Wd K mg base) {fd : FuncData} (F : FunD K d_law.name d_law.qual d_law.params d_law.body d_law.scope [] [] (He.fAd K d_law.at_) fd) : FnOk P w K mg base (L2.CX P w) 91 (He.fAd K d_law.at_) fd P_law (sp_law K) := by
  refine fn_ofM F sc_law (fun vs H Q E h => by unfold sp_law at h; match vs, h with | [_], _ => rfl) (t_law K) (fun A outer s H E hr => ?_) (pure_law (W.err 0 rfl) (W.err 1 rfl) (W.err 2 rfl))
  have nd := sc_law.nd
  exact ⟨[_, _, _, _, _, _, _, _, _, _, _, _, _, _, _, _, _], (pss_cons (ps_set (i := 1) nd rfl (Or.inl rfl) (pe_callC (ok_law_begun W) (hr.mono (by decide)) rfl (W.glo 50 rfl) (passes_call (takes_of rfl rfl rfl rfl) (fun _ _ _ _ h => h)) (pa_cons (pv 0) pa_nil)))
    (pss_cons (ps_for (passes_of rfl) rfl (pi_range1 (by rfl) (W.free 4 rfl) (pa_consC pe_int pa_nil)) (pg_name (i := 2) nd rfl (Or.inl rfl)) (pss_cons (ps_set (i := 3) nd rfl (Or.inr rfl) (pe_callC (ok_law_lengths W) (hr.mono (by decide)) rfl (W.glo 51 rfl) (passes_call (takes_of rfl rfl rfl rfl) (fun _ _ _ _ h => h)) (pa_cons (pv 1) (pa_cons (pe_ix ix_list (pe_lst (pa_consC pe_int (pa_consC pe_int (pa_consC pe_int pa_nil)))) (pe_callC (ok_law_take W) (hr.mono (by decide)) rfl (W.glo 3 rfl) (passes_call (takes_of rfl rfl rfl rfl) (fun _ _ _ _ h => h)) (pa_cons (pv 1) (pa_consC pe_int pa_nil))) (fun _ _ => rfl)) pa_nil))))
    (pss_cons (ps_set (i := 4) nd rfl (Or.inr rfl) (pe_opD op_add pe_int (pe_callC (ok_law_take W) (hr.mono (by decide)) rfl (W.glo 3 rfl) (passes_call (takes_of rfl rfl rfl rfl) (fun _ _ _ _ h => h)) (pa_cons (pv 1) (pa_consC pe_int pa_nil)))))
    (pss_cons (ps_set (i := 5) nd rfl (Or.inl rfl) (pe_callC (ok_law_plan W) (hr.mono (by decide)) rfl (W.glo 52 rfl) (passes_call (takes_of rfl rfl rfl rfl) (fun _ _ _ _ h => h)) (pa_cons (pv 1) (pa_cons (pe_listRg rfl rfl (W.free 0 rfl) (prg_1 rfl (W.free 4 rfl) (pe_callB1 call_len_seq (by rfl) (W.free 1 rfl) (by decide +kernel) (pv 3)))) (pa_cons (pv 4) pa_nil)))))
    (pss_cons (ps_set (i := 6) nd rfl (Or.inl rfl) (pe_callTy1 call_list_of (by rfl) (W.free 0 rfl) (by decide +kernel) (pv 3)))
    (pss_cons (ps_set (i := 7) nd rfl (Or.inl rfl) (pe_callC (ok_costY W) (hr.mono (by decide)) rfl (W.glo 48 rfl) (passes_call (takes_of rfl rfl rfl rfl) (fun _ _ _ _ h => h)) (pa_cons (pv 6) (pa_cons (pv 4) (pa_cons (pv 5) pa_nil)))))
    (pss_cons (ps_if (PW.pt (pw_or (pt_not (pt_val (pe_callC (ok_law_alike W) (hr.mono (by decide)) rfl (W.glo 30 rfl) (passes_call (takes_of rfl rfl rfl rfl) (fun _ _ _ _ h => h)) (pa_cons (pv 7) (pa_cons (pe_callC (ok_law_cost W) (hr.mono (by decide)) rfl (W.glo 49 rfl) (passes_call (takes_of rfl rfl rfl rfl) (fun _ _ _ _ h => h)) (pa_cons (pv 3) (pa_cons (pv 5) pa_nil))) pa_nil))))) (pw_or1 (pt_cmpR (op_neD (hu64 hr)) (pv 6) (pv 3) (nomark _))))) (pss_one (ps_ret pe_bl)) pss_nil)
    (pss_cons (ps_set (i := 8) nd rfl (Or.inr rfl) (pe_callC (ok_law_bad W) (hr.mono (by decide)) rfl (W.glo 53 rfl) (passes_call (takes_of rfl rfl rfl rfl) (fun _ _ _ _ h => h)) (pa_cons (pv 1) (pa_cons (pe_callB1 call_len_seq (by rfl) (W.free 1 rfl) (by decide +kernel) (pv 3)) (pa_cons (pv 4) (pa_cons (pv 5) pa_nil))))))
    (pss_cons (ps_set (i := 9) nd rfl (Or.inl rfl) (pe_lst (pa_cons (pe_lamM (T := Lms_k07) (p0 := ("law", none)) (j := 0) W.tab (List.mem_cons_self) rfl rfl (by show lamDB N_law (defScope s_law) _ = true; decide +kernel) rfl) (pa_cons (pe_lamD (T := Lms_k07) (p0 := ("law", none)) (j := 1) W.tab (List.mem_cons_self) rfl rfl (by show lamDB N_law (defScope s_law) _ = true; decide +kernel) rfl rfl) pa_nil))))
    (pss_cons (ps_if (pt_not (pt_val (pe_allC (k := 87) (all_law_all W) (told_law_told W) rfl (hr.mono (by decide)) (hr.mono (by decide)) (pa_cons (pv 9) (pa_cons (pe_tup (pa_consC pe_str (pa_consC pe_int pa_nil))) pa_nil)) (lams_put (j := 0) rfl rfl rfl (by show lamDB N_law (defScope s_law) _ = true; decide +kernel) (fun _ _ _ => rfl) (fun _ _ _ _ E _ _ hr => (pe_callC (ok_costY W) (hr.mono (by decide)) rfl (W.glo 48 rfl) (passes_call (takes_of rfl rfl rfl rfl) (fun _ _ _ _ h => h)) (pa_cons (pv 3) (pa_cons (pv 4) (pa_cons (pv 8) pa_nil))))) (lams_putD (j := 1) rfl rfl rfl (by show lamDB N_law (defScope s_law) _ = true; decide +kernel) rfl (fun _ _ _ _ => ⟨_, rfl, fun _ => rfl⟩) (fun _ _ _ _ E _ _ hr => (pe_callC (ok_written_planX W) (hr.mono (by decide)) rfl (W.glo 54 rfl) (passes_call (takes_of rfl rfl rfl rfl) (fun _ _ _ _ h => h)) (pa_cons (pv 3) (pa_cons (pv 4) (pa_cons (pv 8) pa_nil))))) lams_nil))))) (pss_one (ps_ret pe_bl)) pss_nil)
    (pss_cons (ps_set (i := 10) nd rfl (Or.inr rfl) (pe_ix ix_list (pe_lst (pa_consC pe_int (pa_consC pe_int (pa_consC pe_int (pa_cons (pe_opD op_add pe_int (pe_callC (ok_law_take W) (hr.mono (by decide)) rfl (W.glo 3 rfl) (passes_call (takes_of rfl rfl rfl rfl) (fun _ _ _ _ h => h)) (pa_cons (pv 1) (pa_cons (pe_opC op_pow pe_int pe_int) pa_nil)))) (pa_consC (pe_unN pe_int) pa_nil)))))) (pe_callC (ok_law_take W) (hr.mono (by decide)) rfl (W.glo 3 rfl) (passes_call (takes_of rfl rfl rfl rfl) (fun _ _ _ _ h => h)) (pa_cons (pv 1) (pa_consC pe_int pa_nil))) (fun _ _ => rfl)))
    (pss_cons (ps_set (i := 9) nd rfl (Or.inl rfl) (pe_lst (pa_cons (pe_lamM (T := Lms_k07) (p0 := ("law", none)) (j := 2) W.tab (List.mem_cons_self) rfl rfl (by show lamDB N_law (defScope s_law) _ = true; decide +kernel) rfl) (pa_cons (pe_lamD (T := Lms_k07) (p0 := ("law", none)) (j := 3) W.tab (List.mem_cons_self) rfl rfl (by show lamDB N_law (defScope s_law) _ = true; decide +kernel) rfl rfl) pa_nil))))
    (pss_cons (ps_expr (pe_bm PySem.F.plainAttrs_list PySem.F.slot_list_append PySem.F.type_list_append mt_append (pv 9) (pa_cons (pe_lamD (T := Lms_k07) (p0 := ("law", none)) (j := 4) W.tab (List.mem_cons_self) rfl rfl (by show lamDB N_law (defScope s_law) _ = true; decide +kernel) rfl rfl) pa_nil)))
    (pss_cons (ps_expr (pe_bm PySem.F.plainAttrs_list PySem.F.slot_list_append PySem.F.type_list_append mt_append (pv 9) (pa_cons (pe_lamD (T := Lms_k07) (p0 := ("law", none)) (j := 5) W.tab (List.mem_cons_self) rfl rfl (by show lamDB N_law (defScope s_law) _ = true; decide +kernel) rfl rfl) pa_nil)))
    (pss_cons (ps_expr (pe_bm PySem.F.plainAttrs_list PySem.F.slot_list_append PySem.F.type_list_append mt_append (pv 9) (pa_cons (pe_lamD (T := Lms_k07) (p0 := ("law", none)) (j := 6) W.tab (List.mem_cons_self) rfl rfl (by show lamDB N_law (defScope s_law) _ = true; decide +kernel) rfl rfl) pa_nil)))
    (pss_cons (ps_expr (pe_bm PySem.F.plainAttrs_list PySem.F.slot_list_append PySem.F.type_list_append mt_append (pv 9) (pa_cons (pe_lamD (T := Lms_k07) (p0 := ("law", none)) (j := 7) W.tab (List.mem_cons_self) rfl rfl (by show lamDB N_law (defScope s_law) _ = true; decide +kernel) rfl rfl) pa_nil)))
    (pss_cons (ps_expr (pe_bm PySem.F.plainAttrs_list PySem.F.slot_list_append PySem.F.type_list_append mt_append (pv 9) (pa_cons (pe_lamD (T := Lms_k07) (p0 := ("law", none)) (j := 8) W.tab (List.mem_cons_self) rfl rfl (by show lamDB N_law (defScope s_law) _ = true; decide +kernel) rfl rfl) pa_nil)))
    (pss_cons (ps_if (pt_not (pt_val (pe_allC (k := 87) (all_law_all W) (told_law_told W) rfl (hr.mono (by decide)) (hr.mono (by decide)) (pa_cons (pv 9) (pa_cons (pe_tup (pa_consC pe_str (pa_consC pe_int pa_nil))) pa_nil)) (lams_put (j := 2) rfl rfl rfl (by show lamDB N_law (defScope s_law) _ = true; decide +kernel) (fun _ _ _ => rfl) (fun _ _ _ _ E _ _ hr => (pe_callC (ok_costY W) (hr.mono (by decide)) rfl (W.glo 48 rfl) (passes_call (takes_of rfl rfl rfl rfl) (fun _ _ _ _ h => h)) (pa_cons (pv 3) (pa_cons (pv 10) (pa_cons (pe_tup pa_nil) pa_nil))))) (lams_putD (j := 3) rfl rfl rfl (by show lamDB N_law (defScope s_law) _ = true; decide +kernel) rfl (fun _ _ _ _ => ⟨_, rfl, fun _ => rfl⟩) (fun _ _ _ _ E _ _ hr => (pe_callC (ok_cheapestX W) (hr.mono (by decide)) rfl (W.glo 55 rfl) (passes_call (takes_of rfl rfl rfl rfl) (fun _ _ _ _ h => h)) (pa_cons (pv 3) (pa_cons (pv 10) pa_nil)))) (lams_putD (j := 4) rfl rfl rfl (by show lamDB N_law (defScope s_law) _ = true; decide +kernel) rfl (fun _ _ _ _ => ⟨_, rfl, fun _ => rfl⟩) (fun _ _ _ _ E _ _ hr => (pe_callC (ok_neighboursX W) (hr.mono (by decide)) rfl (W.glo 56 rfl) (passes_call (takes_of rfl rfl rfl rfl) (fun _ _ _ _ h => h)) (pa_cons (pv 3) (pa_cons (pv 10) pa_nil)))) (lams_putD (j := 5) rfl rfl rfl (by show lamDB N_law (defScope s_law) _ = true; decide +kernel) rfl (fun _ _ _ _ => ⟨_, rfl, fun _ => rfl⟩) (fun _ _ _ _ E _ _ hr => (pe_callC (ok_paperX W) (hr.mono (by decide)) rfl (W.glo 57 rfl) (passes_call (takes_of rfl rfl rfl rfl) (fun _ _ _ _ h => h)) (pa_cons (pv 3) (pa_cons (pv 10) pa_nil)))) (lams_putD (j := 6) rfl rfl rfl (by show lamDB N_law (defScope s_law) _ = true; decide +kernel) rfl (fun _ _ _ _ => ⟨_, rfl, fun _ => rfl⟩) (fun _ _ _ _ E _ _ hr => (pe_callC (ok_boundX W) (hr.mono (by decide)) rfl (W.glo 58 rfl) (passes_call (takes_of rfl rfl rfl rfl) (fun _ _ _ _ h => h)) (pa_cons (pv 3) (pa_cons (pv 10) (pa_cons (pe_lst (pa_cons (pe_tup (pa_consC pe_int (pa_consC pe_int (pa_consC pe_int pa_nil)))) pa_nil)) pa_nil))))) (lams_putD (j := 7) rfl rfl rfl (by show lamDB N_law (defScope s_law) _ = true; decide +kernel) rfl (fun _ _ _ _ => ⟨_, rfl, fun _ => rfl⟩) (fun _ _ _ _ E _ _ hr => (pe_callC (ok_written_planX W) (hr.mono (by decide)) rfl (W.glo 54 rfl) (passes_call (takes_of rfl rfl rfl rfl) (fun _ _ _ _ h => h)) (pa_cons (pv 3) (pa_cons (pv 10) (pa_cons (pe_tup pa_nil) pa_nil))))) (lams_putD (j := 8) rfl rfl rfl (by show lamDB N_law (defScope s_law) _ = true; decide +kernel) rfl (fun _ _ _ _ => ⟨_, rfl, fun _ => rfl⟩) (fun _ _ _ _ E _ _ hr => (pe_callC (ok_read_planY W) (hr.mono (by decide)) rfl (W.glo 59 rfl) (passes_call (takes_of rfl rfl rfl rfl) (fun _ _ _ _ h => h)) (pa_cons (pv 3) (pa_cons (pv 10) (pa_consC pe_str pa_nil))))) lams_nil)))))))))) (pss_one (ps_ret pe_bl)) pss_nil)
    (pss_cons (ps_set (i := 11) nd rfl (Or.inl rfl) (pe_callC (ok_law_take W) (hr.mono (by decide)) rfl (W.glo 3 rfl) (passes_call (takes_of rfl rfl rfl rfl) (fun _ _ _ _ h => h)) (pa_cons (pv 1) (pa_cons (pe_opC op_add (pe_callB1 call_len_seq (by rfl) (W.free 1 rfl) (by decide +kernel) (pv 3)) pe_int) pa_nil))))
    (pss_cons (ps_set (i := 8) nd rfl (Or.inr rfl) (pe_ix ix_list (pe_lst (pa_consC pe_int (pa_consC (pe_unN pe_int) (pa_cons (pe_opC op_add (pe_opC op_pow pe_int pe_int) pe_int) (pa_cons (pe_opC op_pow pe_int pe_int) pa_nil))))) (pe_callC (ok_law_take W) (hr.mono (by decide)) rfl (W.glo 3 rfl) (passes_call (takes_of rfl rfl rfl rfl) (fun _ _ _ _ h => h)) (pa_cons (pv 1) (pa_consC pe_int pa_nil))) (fun _ _ => rfl)))
    (pss_cons (ps_set (i := 12) nd rfl (Or.inl rfl) (pe_op op_cat (pe_op op_cat (pe_slice sl_list (pv 3) po_none (po_some (pv 11))) (pe_lst (pa_cons (pv 8) pa_nil))) (pe_slice sl_list (pv 3) (po_some (pv 11)) po_none)))
    (pss_cons (ps_set (i := 13) nd rfl (Or.inr rfl) (pe_ix ix_list (pe_lst (pa_cons (pv 12) (pa_cons (pe_lst pa_nil) (pa_cons (pe_op op_rep (pe_lst (pa_consC pe_int pa_nil)) (pe_opD op_add pe_int (pe_callC (ok_law_take W) (hr.mono (by decide)) rfl (W.glo 3 rfl) (passes_call (takes_of rfl rfl rfl rfl) (fun _ _ _ _ h => h)) (pa_cons (pv 1) (pa_consC pe_int pa_nil))))) pa_nil)))) (pe_callC (ok_law_take W) (hr.mono (by decide)) rfl (W.glo 3 rfl) (passes_call (takes_of rfl rfl rfl rfl) (fun _ _ _ _ h => h)) (pa_cons (pv 1) (pa_consC pe_int pa_nil))) (fun _ _ => rfl)))
    (pss_cons (ps_set (i := 9) nd rfl (Or.inl rfl) (pe_lst (pa_cons (pe_lamM (T := Lms_k07) (p0 := ("law", none)) (j := 9) W.tab (List.mem_cons_self) rfl rfl (by show lamDB N_law (defScope s_law) _ = true; decide +kernel) rfl) (pa_cons (pe_lamD (T := Lms_k07) (p0 := ("law", none)) (j := 10) W.tab (List.mem_cons_self) rfl rfl (by show lamDB N_law (defScope s_law) _ = true; decide +kernel) rfl rfl) (pa_cons (pe_lamD (T := Lms_k07) (p0 := ("law", none)) (j := 11) W.tab (List.mem_cons_self) rfl rfl (by show lamDB N_law (defScope s_law) _ = true; decide +kernel) rfl rfl) pa_nil)))))
    (pss_cons (ps_expr (pe_bm PySem.F.plainAttrs_list PySem.F.slot_list_append PySem.F.type_list_append mt_append (pv 9) (pa_cons (pe_lamD (T := Lms_k07) (p0 := ("law", none)) (j := 12) W.tab (List.mem_cons_self) rfl rfl (by show lamDB N_law (defScope s_law) _ = true; decide +kernel) rfl rfl) pa_nil)))
    (pss_cons (ps_expr (pe_bm PySem.F.plainAttrs_list PySem.F.slot_list_append PySem.F.type_list_append mt_append (pv 9) (pa_cons (pe_lamD (T := Lms_k07) (p0 := ("law", none)) (j := 13) W.tab (List.mem_cons_self) rfl rfl (by show lamDB N_law (defScope s_law) _ = true; decide +kernel) rfl rfl) pa_nil)))
    (pss_cons (ps_expr (pe_bm PySem.F.plainAttrs_list PySem.F.slot_list_append PySem.F.type_list_append mt_append (pv 9) (pa_cons (pe_lamD (T := Lms_k07) (p0 := ("law", none)) (j := 14) W.tab (List.mem_cons_self) rfl rfl (by show lamDB N_law (defScope s_law) _ = true; decide +kernel) rfl rfl) pa_nil)))
    (pss_cons (ps_if (pt_not (pt_val (pe_allC (k := 87) (all_law_all W) (told_law_told W) rfl (hr.mono (by decide)) (hr.mono (by decide)) (pa_cons (pv 9) (pa_cons (pe_tup (pa_consC pe_str (pa_consC pe_int pa_nil))) pa_nil)) (lams_put (j := 9) rfl rfl rfl (by show lamDB N_law (defScope s_law) _ = true; decide +kernel) (fun _ _ _ => rfl) (fun _ _ _ _ E _ _ hr => (pe_callC (ok_costY W) (hr.mono (by decide)) rfl (W.glo 48 rfl) (passes_call (takes_of rfl rfl rfl rfl) (fun _ _ _ _ h => h)) (pa_cons (pv 13) (pa_consC pe_int (pa_cons (pe_tup pa_nil) pa_nil))))) (lams_putD (j := 10) rfl rfl rfl (by show lamDB N_law (defScope s_law) _ = true; decide +kernel) rfl (fun _ _ _ _ => ⟨_, rfl, fun _ => rfl⟩) (fun _ _ _ _ E _ _ hr => (pe_callC (ok_cheapestX W) (hr.mono (by decide)) rfl (W.glo 55 rfl) (passes_call (takes_of rfl rfl rfl rfl) (fun _ _ _ _ h => h)) (pa_cons (pv 13) (pa_consC pe_int pa_nil)))) (lams_putD (j := 11) rfl rfl rfl (by show lamDB N_law (defScope s_law) _ = true; decide +kernel) rfl (fun _ _ _ _ => ⟨_, rfl, fun _ => rfl⟩) (fun _ _ _ _ E _ _ hr => (pe_callC (ok_neighboursX W) (hr.mono (by decide)) rfl (W.glo 56 rfl) (passes_call (takes_of rfl rfl rfl rfl) (fun _ _ _ _ h => h)) (pa_cons (pv 13) (pa_consC pe_int pa_nil)))) (lams_putD (j := 12) rfl rfl rfl (by show lamDB N_law (defScope s_law) _ = true; decide +kernel) rfl (fun _ _ _ _ => ⟨_, rfl, fun _ => rfl⟩) (fun _ _ _ _ E _ _ hr => (pe_callC (ok_paperX W) (hr.mono (by decide)) rfl (W.glo 57 rfl) (passes_call (takes_of rfl rfl rfl rfl) (fun _ _ _ _ h => h)) (pa_cons (pv 13) (pa_consC pe_int pa_nil)))) (lams_putD (j := 13) rfl rfl rfl (by show lamDB N_law (defScope s_law) _ = true; decide +kernel) rfl (fun _ _ _ _ => ⟨_, rfl, fun _ => rfl⟩) (fun _ _ _ _ E _ _ hr => (pe_callC (ok_boundX W) (hr.mono (by decide)) rfl (W.glo 58 rfl) (passes_call (takes_of rfl rfl rfl rfl) (fun _ _ _ _ h => h)) (pa_cons (pv 13) (pa_consC pe_int (pa_cons (pe_lst pa_nil) pa_nil))))) (lams_putD (j := 14) rfl rfl rfl (by show lamDB N_law (defScope s_law) _ = true; decide +kernel) rfl (fun _ _ _ _ => ⟨_, rfl, fun _ => rfl⟩) (fun _ _ _ _ E _ _ hr => (pe_callC (ok_written_planX W) (hr.mono (by decide)) rfl (W.glo 54 rfl) (passes_call (takes_of rfl rfl rfl rfl) (fun _ _ _ _ h => h)) (pa_cons (pv 13) (pa_consC pe_int (pa_cons (pe_tup pa_nil) pa_nil))))) lams_nil))))))))) (pss_one (ps_ret pe_bl)) pss_nil)
    (pss_one (ps_if (pt_not (pt_val (pe_allC (k := 2) (all_law_all W) (told_law_told W) rfl (hr.mono (by decide)) (hr.mono (by decide)) (pa_cons (pe_lst (pa_cons (pe_lamM (T := Lms_k07) (p0 := ("law", none)) (j := 15) W.tab (List.mem_cons_self) rfl rfl (by show lamDB N_law (defScope s_law) _ = true; decide +kernel) rfl) (pa_cons (pe_lamD (T := Lms_k07) (p0 := ("law", none)) (j := 16) W.tab (List.mem_cons_self) rfl rfl (by show lamDB N_law (defScope s_law) _ = true; decide +kernel) rfl rfl) pa_nil))) (pa_cons (pe_tup (pa_consC pe_str (pa_consC pe_int pa_nil))) pa_nil)) (lams_put (j := 15) rfl rfl rfl (by show lamDB N_law (defScope s_law) _ = true; decide +kernel) (fun _ _ _ => rfl) (fun _ _ _ _ E _ _ hr => (pe_callC (ok_read_planY W) (hr.mono (by decide)) rfl (W.glo 59 rfl) (passes_call (takes_of rfl rfl rfl rfl) (fun _ _ _ _ h => h)) (pa_cons (pv 13) (pa_consC pe_int (pa_consC pe_str pa_nil))))) (lams_putD (j := 16) rfl rfl rfl (by show lamDB N_law (defScope s_law) _ = true; decide +kernel) rfl (fun _ _ _ _ => ⟨_, rfl, fun _ => rfl⟩) (fun _ _ _ _ E _ _ hr => (pe_callC (ok_read_planY W) (hr.mono (by decide)) rfl (W.glo 59 rfl) (passes_call (takes_of rfl rfl rfl rfl) (fun _ _ _ _ h => h)) (pa_cons (pe_lst (pa_consC pe_int pa_nil)) (pa_consC pe_int (pa_consC pe_str pa_nil))))) lams_nil))))) (pss_one (ps_ret pe_bl)) pss_nil)))))))))))))))))))))))))))))
    (pss_one (ps_ret (pe_callC (ok_law_alike W) (hr.mono (by decide)) rfl (W.glo 30 rfl) (passes_call (takes_of rfl rfl rfl rfl) (fun _ _ _ _ h => h)) (pa_cons (pe_cmpRC op_gt (pe_callC (ok_costY W) (hr.mono (by decide)) rfl (W.glo 48 rfl) (passes_call (takes_of rfl rfl rfl rfl) (fun _ _ _ _ h => h)) (pa_cons (pe_opC op_rep (pe_lst (pa_consC pe_int pa_nil)) pe_int) (pa_consC pe_int (pa_cons (pe_callC (ok_law_plan W) (hr.mono (by decide)) rfl (W.glo 52 rfl) (passes_call (takes_of rfl rfl rfl rfl) (fun _ _ _ _ h => h)) (pa_cons (pv 1) (pa_cons (pe_listRg rfl rfl (W.free 0 rfl) (prg_1 rfl (W.free 4 rfl) pe_int)) (pa_consC pe_int pa_nil)))) pa_nil)))) pe_int (nomark _)) (pa_consC pe_bl pa_nil)))))))⟩
end
end Lw
namespace Lw
open PySem PySem.Spec PyProof.Rows L2 Rs
/-- a promise that holds whatever may be raised: nothing is -/
theorem calm {P : Program} {w : World} {K : PySem.W.Frag} {mg : Str → Option Value} {base : Heap} {k : Nat} {f : Addr} {fd : FuncData} {ps : List Str} {sp : Sp} (F : FnOk P w K mg base (L2.CX P w) k f fd ps sp) (hE : ∀ vs H Q E, sp vs H Q E → sp vs H Q E0) : FnOk P w K mg base CX0 k f fd ps sp :=
  ⟨F.len, fun A outer s H args us vs Q E hr he hb hv hs => codeAny_mono (F.run A outer s H args us vs Q E0 hr he hb hv (hE _ _ _ _ hs)) fun r s' h => by
    cases r with
    | error e =>
      obtain ⟨_, _, _, _, _, _, _, _, _, _, _, _, hf⟩ := h
      exact hf.elim
    | ok fl => cases fl <;> exact h⟩
end Lw
open PySem PySem.W PySem.Calls PyProof.Rows
theorem PySem.Challenge.cw_runsorts_k07_plans_and_costs_holds : PySem.Challenge.rw_runsorts_k07_plans_and_costs.Holds := by
  w_on; o_law
  refine HandSHeadRun.head_any (r := OpenLaw.row PySem.Challenge.rw_runsorts_k07_plans_and_costs) (q := view (OpenLaw.row PySem.Challenge.rw_runsorts_k07_plans_and_costs).prog [61]) (H := Lw.hk) (ob := Lw.ob) (M := 15000) (loose := Lw.loose) (d := HandSHeadRun.topDef (OpenLaw.row PySem.Challenge.rw_runsorts_k07_plans_and_costs).prog 61) (kwd := []) Lw.ob_eq
    (by kernel_rfl) (fun s => by kernel_rfl) Lw.run (by kernel_rfl) (by kernel_rfl) (by kernel_rfl) (by rfl) (by first | assumption | decide +kernel) (by decide +kernel) ⟨rfl, rfl, rfl, rfl, rfl, by decide +kernel⟩ ?hw ?hc
  case hw => w_witness2
  case hc =>
    refine LamX.walk_ofTsE (l := PySem.Challenge.rw_runsorts_k07_plans_and_costs) (n := 63) (k := 91) (x := "_law_script") (CX := fun _ => L2.CX0) rfl (by decide) (by kernel_rfl) ⟨rfl, by decide, by decide⟩ ?F (fun _ _ _ _ _ z => z)
    intro w mg fa h Y G hmg0
    obtain ⟨K, KX, c⟩ := Y
    have hmg : mg ("law" : PySem.Str) = some (.ref fa) := by
      have e : (HandSHeadRun.topDef (OpenLaw.row PySem.Challenge.rw_runsorts_k07_plans_and_costs).prog 61).name = ("law" : PySem.Str) := by kernel_rfl
      rw [← e]
      exact hmg0
    obtain ⟨fd, F⟩ := c.m.def_ 25 (d := Lw.d_law) rfl
    have e := hmg.symm.trans (He.glo_ok KX G (Lw.says_fact c.m 60 (f := .glo "law") rfl))
    cases e
    have b := L2.FunD.bindsA (ps := ["_law_script"]) F fun _ _ _ _ _ _ us hl => match us, hl with | [_], _ => rfl
    refine ⟨K, KX, fd, Lw.tf.map fun p => He.cT K p, Rs.sp_law K, ?_, ?_, ?_, fun s v => b s [v] rfl, fun H a ns hl _ hT hS => ⟨a, ns, rfl, hS, hl, ?_, fun _ => rfl⟩, fun base _ _ TB => Lw.calm (Lw.fn_law ⟨c.m, ⟨h, KX, G⟩, ⟨?_, Lw.nodup_tabs c.m⟩⟩ F) fun vs H Q E h => h⟩
    · intro p hp
      obtain ⟨q, hq, rfl⟩ := List.mem_map.mp hp
      exact c.empty q hq
    · intro p hp
      obtain ⟨q, hq, rfl⟩ := List.mem_map.mp hp
      exact c.out q hq
    · intro p hp
      obtain ⟨q, hq, rfl⟩ := List.mem_map.mp hp
      exact PySem.W.codeHd_of_K KX (c.hd q hq)
    · exact Lw.tabs_start H fun q hq => hT _ (List.mem_map.mpr ⟨q, hq, rfl⟩)
    · intro p hp
      exact TB _ (List.mem_map.mpr ⟨p.1, Lw.lms_tf p hp, rfl⟩)
