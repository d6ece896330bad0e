import PyProof.Rows.All
import Wide.All
import OpenK.AllK
import Wide.FinOn
import KE.KStateDown
import Lean
import HandS.ForMost
import HandS.ForExc
import HandS.Flow
import HandS.Wide
import HandS.TupAny
import HandS.Zip
import HandS.IsInst
import HandS.Steps
import HandS.More
import HandS.Conv
import HandS.Deep
import HandS.Walk
import HandS.Defaults
import HandS.Head0
import HandS.Head1
import HandS.Head2
import HandS.HeadEnd
import HandS.HeadHook1
import HandS.HeadHook2
import HandS.Exc
import HandS.ExcOwn
import HandS.TryOnly
import HandS.Style
import HandS.Lambda
import HandS.HotCalls
import HandS.ExcIs
import HandS.ExcField
import HandS.HeadHook3
import HandS.HeadHook4
import HandS.EndTab
import HandS.HeadWalk
import HandS.SortRule
import HandS.SortInts
import HandS.Dict
import HandS.DictTup
import HandS.TupLen
import KE.KTupSum
import HandS.Codes
import KE.LtData
import HandS.Ends
import HandS.Words
import HandS.WordsExc
import PySem.Challenge.RW_runsorts_k10_papers_judged
set_option Elab.async false
set_option linter.all false
set_option maxRecDepth 100000
set_option maxHeartbeats 4000000
/-! the head: facts by names, told over the objects that the module's names reach -/
namespace Hx
open PySem PySem.Spec PyProof.Rows L2
def obj1 (g : Addr → Option Obj) (v : Value) : List Addr := match v with
  | .ref b => (match g b with
    | some ⟨_, _, .func fd, _⟩ => b :: (He.refV fd.code ++ He.refV fd.defaults)
    | _ => [b])
  | _ => []
def obj2 (g : Addr → Option Obj) (v : Value) : List Addr := match v with
  | .ref b => (match g b with
    | some ⟨_, _, .func fd, _⟩ => b :: (He.refV fd.code ++ He.refV fd.defaults)
    | some ⟨_, _, .cls cd, _⟩ => b :: cd.ns :: (match g cd.ns with
      | some ⟨_, _, .dict es _, _⟩ => es.toList.flatMap fun e => obj1 g e.val
      | _ => [])
    | _ => [b])
  | _ => []
def asX (g : Addr → Option Obj) : List Addr := mainGlobals :: (match g mainGlobals with
  | some ⟨_, _, .dict es _, _⟩ => es.toList.flatMap fun e => obj2 g e.val
  | _ => [])
abbrev Fs : Type := List (PySem.W.Frag → Bool)
def obsM (fs : Fs) (fn : List He.DefD) (K : PySem.W.Frag) : He.AlD := ((fs.all fun f => f K) && fn.all fun d => d.ok K, fn.map fun d => He.fnW K d.at_)
def SaysM (fs : Fs) (fn : List He.DefD) (K : PySem.W.Frag) : Prop := obsM fs fn K = He.valD fn
def obsMG (fs : Fs) (fn : List He.DefD) (g : Addr → Option Obj) : He.AlD := obsM fs fn (He.frG g (asX g))
def hookM (fs : Fs) (fn : List He.DefD) : PySem.W.Hook where
  α := He.AlD
  obs := fun s => obsMG fs fn s.heap.get?
  val := fun _ => He.valD fn
  says := fun _ h => ∃ K : PySem.W.Frag, K.In h ∧ SaysM fs fn K
  of := fun _ _ e => ⟨_, He.frG_in, e⟩
  keeps := fun _ _ _ ⟨K, hK, c⟩ k => ⟨K, PySem.W.Frag.In.keeps hK k, c⟩
theorem obsMG_eq {fs : Fs} {fn : List He.DefD} {g : Addr → Option Obj} {s : Shared} (h : ∀ a, g a = s.heap.get? a) : obsMG fs fn g = (hookM fs fn).obs s := by
  have e : g = s.heap.get? := funext h
  rw [e] <;> rfl
section
variable {fs : Fs} {fn : List He.DefD} {K : PySem.W.Frag}
theorem SaysM.fact (c : SaysM fs fn K) (i : Nat) {f : PySem.W.Frag → Bool} (h : fs[i]? = some f := by rfl) : f K = true := by
  have c1 := (He.ba (show ((fs.all fun f => f K) && fn.all fun d => d.ok K) = true from congrArg (fun z : He.AlD => z.1) c)).1
  exact List.all_eq_true.mp c1 f (List.mem_of_getElem? h)
theorem SaysM.def_ (c : SaysM fs fn K) (i : Nat) {d : He.DefD} (h : fn[i]? = some d := by rfl) : ∃ fd, FunD K d.name d.qual d.params d.body d.scope (d.dvs K) (d.kws K) (He.fAd K d.at_) fd := by
  have c2 := (He.ba (show ((fs.all fun f => f K) && fn.all fun d => d.ok K) = true from congrArg (fun z : He.AlD => z.1) c)).2
  have e : fn.map (fun d => He.fnW K d.at_) = fn.map He.DefD.val := congrArg (fun z : He.AlD => z.2) c
  have e2 : (fn.map fun d => He.fnW K d.at_)[i]? = (fn.map He.DefD.val)[i]? := by rw [e]
  rw [List.getElem?_map, List.getElem?_map, h] at e2
  exact He.DefD.funD (Option.some.inj e2) (List.all_eq_true.mp c2 d (List.mem_of_getElem? h))
end
end Hx

/-! the same, the tables of the defs that make lambdas told beside -/
namespace Hx
open PySem PySem.Spec PyProof.Rows L2
structure SaysMT (fs : Fs) (fn : List He.DefD) (tf : List He.Defn) (h : Heap) (K : PySem.W.Frag) : Prop where
  m : SaysM fs fn K
  hd : ∀ p ∈ tf, PySem.W.codeHdIn K (He.cT K p).1 (He.cT K p).2 = true
  out : ∀ p ∈ tf, K.lookup (He.cT K p).2 = none
  empty : ∀ p ∈ tf, h.get? (He.cT K p).2 = some { cls := .none, data := .fields #[] }
def obsMT (fs : Fs) (fn : List He.DefD) (tf : List He.Defn) (g : Addr → Option Obj) : He.AlD × Bool := (obsM fs fn (He.frT g (asX g)), He.tabsB g tf (He.frT g (asX g)))
theorem saysMT_of {fs : Fs} {fn : List He.DefD} {tf : List He.Defn} {h : Heap} (e : obsMT fs fn tf h.get? = (He.valD fn, true)) : SaysMT fs fn tf h (He.frT h.get? (asX h.get?)) := by
  have e1 : obsM fs fn (He.frT h.get? (asX h.get?)) = He.valD fn := congrArg (fun z : He.AlD × Bool => z.1) e
  have e2 : He.tabsB h.get? tf (He.frT h.get? (asX h.get?)) = true := congrArg (fun z : He.AlD × Bool => z.2) e
  have at_ : ∀ p ∈ tf, PySem.W.codeHdIn (He.frT h.get? (asX h.get?)) (He.cT (He.frT h.get? (asX h.get?)) p).1 (He.cT (He.frT h.get? (asX h.get?)) p).2 = true ∧ ∃ o, h.get? (He.cT (He.frT h.get? (asX h.get?)) p).2 = some o ∧ He.emptyTab o = true := fun p hp => by
    obtain ⟨g1, g2⟩ := He.ba (List.all_eq_true.mp e2 p hp)
    refine ⟨g1, ?_⟩
    revert g2
    cases h.get? (He.cT (He.frT h.get? (asX h.get?)) p).2 with
    | none => exact fun z => (nomatch z)
    | some o => exact fun z => ⟨o, rfl, z⟩
  exact ⟨e1, fun p hp => (at_ p hp).1, fun p hp => (at_ p hp).2.elim fun o z => He.frT_none z.1 z.2, fun p hp => (at_ p hp).2.elim fun o z => by rw [z.1, He.emptyTab_eq z.2]⟩
def hookMT (fs : Fs) (fn : List He.DefD) (tf : List He.Defn) : PySem.W.Hook where
  α := He.AlD × Bool
  obs := fun s => obsMT fs fn tf s.heap.get?
  val := fun _ => (He.valD fn, true)
  says := fun _ h => ∃ K : PySem.W.Frag, K.In h ∧ SaysMT fs fn tf h K
  of := fun _ _ e => ⟨_, He.frT_in, saysMT_of e⟩
  keeps := fun _ _ _ ⟨K, hK, c⟩ k => ⟨K, PySem.W.Frag.In.keeps hK k, ⟨c.m, c.hd, c.out, fun p hp => k _ _ (c.empty p hp)⟩⟩
theorem obsMT_eq {fs : Fs} {fn : List He.DefD} {tf : List He.Defn} {g : Addr → Option Obj} {s : Shared} (h : ∀ a, g a = s.heap.get? a) : obsMT fs fn tf g = (hookMT fs fn tf).obs s := by
  have e : g = s.heap.get? := funext h
  rw [e] <;> rfl
end Hx

namespace Rs
open PySem PySem.Spec PyProof.Rows L2
def errNames : List Str := ["BadKinds", "BadOrder", "BadRows", "BadRuns", "BadRoom", "BadLengths", "BadPlan", "BadPaper", "BadCount", "BadBlock", "Stopped", "Shut", "NotYet", "Empty", "BadText"]
def excCB (K : PySem.W.Frag) (D : Addr) : Bool :=
  decide (PySem.W.findIn K (.ref D) "__getattribute__" = some (some (.builtin "BaseException.__getattribute__"))) && (decide (PySem.W.findIn K (.ref D) "__getattr__" = some none) && (decide (PySem.W.subIn K (.ref D) (.type "BaseException") = some true) && (PySem.W.hasDictIn K D &&
    (decide (PySem.W.findIn K (.ref D) "__class__" = some (some (.builtin "object.__class__"))) && (decide (PySem.W.specialIn K (.builtin "object.__class__") "__get__" = some (some (.builtin "getset_descriptor.__get__"))) && (decide (PySem.W.takesIn K (.builtin "object.__class__") = some true) && decide (PySem.W.mroIn K D (.type "object") = some true)))))))
def errB (x : Str) (K : PySem.W.Frag) : Bool :=
  decide (x ∈ errNames) && (excCB K (He.ga K x) && ((errNames.all fun y => decide (PySem.W.kitOne K (.ref (He.ga K x)) (.ref (He.ga K y)) = some (decide (x = y)))) && (decide (PySem.W.kitOne K (.ref (He.ga K x)) (.type "ValueError") = some true) && decide (PySem.W.exmOne K (.ref (He.ga K x)) (.ref (He.ga K "SortError")) = some true))))
end Rs
namespace Lw
open PySem PySem.Spec PyProof.Rows L2 Rs LamX
/-! ### the text by places -/
def top (i : Nat) : Stmt := PySem.Challenge.pw_runsorts_k10_papers_judged.main.body.getD i (.Pass ⟨0, 0, 0, 0⟩)
abbrev s_law_begun : Stmt := top 30
def d_law_begun : He.DefD := ⟨("_law_begun", none), "_law_begun", "_law_begun", defArgs s_law_begun, defBody s_law_begun, defScope s_law_begun, [], []⟩
abbrev s_law_take : Stmt := top 31
def d_law_take : He.DefD := ⟨("_law_take", none), "_law_take", "_law_take", defArgs s_law_take, defBody s_law_take, defScope s_law_take, [], []⟩
abbrev s_law_lengths : Stmt := top 36
def d_law_lengths : He.DefD := ⟨("_law_lengths", none), "_law_lengths", "_law_lengths", defArgs s_law_lengths, defBody s_law_lengths, defScope s_law_lengths, [], []⟩
abbrev s_need_lengths : Stmt := top 22
def d_need_lengths : He.DefD := ⟨("need_lengths", none), "need_lengths", "need_lengths", defArgs s_need_lengths, defBody s_need_lengths, defScope s_need_lengths, [], []⟩
abbrev s_need_ways : Stmt := top 23
def d_need_ways : He.DefD := ⟨("need_ways", none), "need_ways", "need_ways", defArgs s_need_ways, defBody s_need_ways, defScope s_need_ways, [], []⟩
abbrev s_stretches : Stmt := top 24
def d_stretches : He.DefD := ⟨("stretches", none), "stretches", "stretches", defArgs s_stretches, defBody s_stretches, defScope s_stretches, [], []⟩
abbrev s_cuts_of : Stmt := top 25
def d_cuts_of : He.DefD := ⟨("cuts_of", none), "cuts_of", "cuts_of", defArgs s_cuts_of, defBody s_cuts_of, defScope s_cuts_of, [], []⟩
abbrev s_neighbours_of : Stmt := top 26
def d_neighbours_of : He.DefD := ⟨("neighbours_of", none), "neighbours_of", "neighbours_of", defArgs s_neighbours_of, defBody s_neighbours_of, defScope s_neighbours_of, [], []⟩
abbrev s_paper : Stmt := top 27
def d_paper : He.DefD := ⟨("paper", none), "paper", "paper", defArgs s_paper, defBody s_paper, defScope s_paper, [], []⟩
abbrev s_law_cuts : Stmt := top 42
def d_law_cuts : He.DefD := ⟨("_law_cuts", none), "_law_cuts", "_law_cuts", defArgs s_law_cuts, defBody s_law_cuts, defScope s_law_cuts, [], []⟩
abbrev s_law_due : Stmt := top 43
def d_law_due : He.DefD := ⟨("_law_due", none), "_law_due", "_law_due", defArgs s_law_due, defBody s_law_due, defScope s_law_due, [], []⟩
abbrev s_law_class : Stmt := top 33
def d_law_class : He.DefD := ⟨("_law_class", none), "_law_class", "_law_class", defArgs s_law_class, defBody s_law_class, defScope s_law_class, [], []⟩
abbrev s_law_told : Stmt := top 34
def d_law_told : He.DefD := ⟨("_law_told", none), "_law_told", "_law_told", defArgs s_law_told, defBody s_law_told, defScope s_law_told, [], []⟩
abbrev s_law_side : Stmt := top 38
def d_law_side : He.DefD := ⟨("_law_side", none), "_law_side", "_law_side", defArgs s_law_side, defBody s_law_side, defScope s_law_side, [], []⟩
abbrev s_law_bent : Stmt := top 44
def d_law_bent : He.DefD := ⟨("_law_bent", none), "_law_bent", "_law_bent", defArgs s_law_bent, defBody s_law_bent, defScope s_law_bent, [], []⟩
abbrev s_bound : Stmt := top 28
def d_bound : He.DefD := ⟨("bound", none), "bound", "bound", defArgs s_bound, defBody s_bound, defScope s_bound, [], []⟩
abbrev s_law_alike : Stmt := top 32
def d_law_alike : He.DefD := ⟨("_law_alike", none), "_law_alike", "_law_alike", defArgs s_law_alike, defBody s_law_alike, defScope s_law_alike, [], []⟩
abbrev s_law_in : Stmt := top 39
def d_law_in : He.DefD := ⟨("_law_in", none), "_law_in", "_law_in", defArgs s_law_in, defBody s_law_in, defScope s_law_in, [], []⟩
abbrev s_law_cost : Stmt := top 40
def d_law_cost : He.DefD := ⟨("_law_cost", none), "_law_cost", "_law_cost", defArgs s_law_cost, defBody s_law_cost, defScope s_law_cost, [], []⟩
abbrev s_law : Stmt := top 45
def d_law : He.DefD := ⟨("law", none), "law", "law", defArgs s_law, defBody s_law, defScope s_law, [], []⟩
def fn : List He.DefD := [d_law_begun, d_law_take, d_law_lengths, d_need_lengths, d_need_ways, d_stretches, d_cuts_of, d_neighbours_of, d_paper, d_law_cuts, d_law_due, d_law_class, d_law_told, d_law_side, d_law_bent, d_bound, d_law_alike, d_law_in, d_law_cost, d_law]
def fa : List He.Fa := [.free "list",
  .free "len",
  .free "int",
  .glo "_law_take",
  .free "range",
  .int "MOST_RUNS" 40,
  .int "MOST_LENGTH" 1000000,
  .int "LEAST_WAYS" 2,
  .int "MOST_WAYS" 6,
  .free "min",
  .glo "stretches",
  .glo "cuts_of",
  .free "sum",
  .glo "need_lengths",
  .glo "need_ways",
  .glo "neighbours_of",
  .free "sorted",
  .glo "_law_cuts",
  .glo "_law_class",
  .glo "BadKinds",
  .free "isinstance",
  .glo "BadOrder",
  .glo "BadRows",
  .glo "BadRuns",
  .glo "BadRoom",
  .glo "BadLengths",
  .glo "BadPlan",
  .glo "BadPaper",
  .glo "BadCount",
  .glo "BadBlock",
  .glo "Stopped",
  .glo "Shut",
  .glo "NotYet",
  .glo "Empty",
  .glo "BadText",
  .free "ValueError",
  .glo "SortError",
  .glo "_law_told",
  .free "tuple",
  .free "dict",
  .exc "BadPaper",
  .free "bool",
  .free "str",
  .glo "_law_alike",
  .glo "_law_in",
  .glo "_law_cost",
  .glo "_law_begun",
  .glo "_law_lengths",
  .glo "paper",
  .glo "_law_bent",
  .glo "_law_due",
  .glo "bound",
  .glo "_law_side",
  .glo "law"]
def tf : List He.Defn := [("law", none)]
def fe : List Str := ["BadPaper"]
def fs : Hx.Fs := (fun K => decide ((tf.map fun p => (He.cT K p).2).Nodup)) :: (fe.map (fun x K => Rs.errB x K) ++ fa.map fun f K => f.ok K)
/-! ### the head -/
def loose : List PySem.Str := (["__name__", "SortError", "BadKinds", "BadOrder", "BadRows", "BadRuns", "BadRoom", "BadLengths", "BadPlan", "BadPaper", "BadCount", "BadBlock", "Stopped", "Shut", "NotYet", "Empty", "BadText", "MOST_RUNS", "MOST_LENGTH", "LEAST_WAYS", "MOST_WAYS", "need_lengths", "need_ways", "stretches", "cuts_of", "neighbours_of", "paper", "bound", "_law_begun", "_law_take"] : List PySem.Str) ++ (["_law_alike", "_law_class", "_law_told", "_law_all", "_law_lengths", "_law_plan", "_law_side", "_law_in", "_law_cost", "_law_fits", "_law_cuts", "_law_due", "_law_bent"] : List PySem.Str)
abbrev R : PySem.W.OpenRow := PySem.W.OpenLaw.row PySem.Challenge.rw_runsorts_k10_papers_judged
abbrev hk : PySem.W.Hook := Hx.hookMT fs fn tf
def ob (s : PySem.W.SharedT) : He.AlD × Bool := Hx.obsMT fs fn tf (HandSHeadRun.getT s)
theorem ob_eq (s : PySem.W.SharedT) : ob s = hk.obs s.abs := Hx.obsMT_eq (HandSHeadRun.getT_eq s)
theorem run (w : World) : HandSHeadRun.RunEq R (PySem.W.view R.prog [45]) hk ob 15000 loose w := by
  intro os
  kernel_rfl
end Lw
namespace Rs
open PySem PySem.Spec PyProof.Rows L2

abbrev xAdd : R2 := rI0 fun i j => .int (i + j)
abbrev xSub : R2 := rI0 fun i j => .int (i - j)
abbrev xMul : R2 := rI CMul fun i j => .int (i * j)
abbrev xDiv : R2 := rI CDivW fun i j => .int (i / j)
abbrev xMod : R2 := rI (fun _ j => 0 < j) fun i j => .int (i % j)
abbrev xPow : R2 := rI CPow fun i j => .int (i ^ j.toNat)
abbrev xLt : R2 := rI0 fun i j => .bl (decide (i < j))
abbrev xLe : R2 := rI0 fun i j => .bl (decide (i ≤ j))
abbrev xGt : R2 := rI0 fun i j => .bl (decide (j < i))
abbrev xLen (K : PySem.W.Frag) : List V → Hp → VK → Prop := fun xs H Q => ∃ p ys, xs = [.ref p] ∧ (SqL K H p ys ∨ SqT K H p ys) ∧ Q (.int ys.length) H
abbrev xInt : List V → Hp → VK → Prop := fun xs H Q => (∃ i, xs = [.int i] ∧ Q (.int i) H) ∨ ∃ k, xs = [.bl k] ∧ Q (.int (if k then 1 else 0)) H
abbrev xList (K : PySem.W.Frag) : List V → Hp → VK → Prop := fun xs H Q => ∃ p ys, xs = [.ref p] ∧ (SqL K H p ys ∨ SqT K H p ys) ∧ ∀ l, H l = none → Q (.ref l) (upd H l (.lst ys))
abbrev xTuple (K : PySem.W.Frag) : List V → Hp → VK → Prop := fun xs H Q => ∃ p ys, xs = [.ref p] ∧ ((SqL K H p ys ∧ ∀ l, H l = none → Q (.ref l) (upd H l (.tup ys))) ∨ (SqT K H p ys ∧ Q (.ref p) H))
abbrev xMin2 : List V → Hp → VK → Prop := fun xs H Q => ∃ i j, xs = [.int i, .int j] ∧ Q (.int (if j < i then j else i)) H
abbrev rSlTA (K : PySem.W.Frag) : V → Option Int → Option Int → Hp → VK → Prop := rSlA K
def xEqE (K : PySem.W.Frag) : R2 := fun x y H Q => ∃ a b xs ys, x = .ref a ∧ y = .ref b ∧ SqL K H a xs ∧ SqL K H b ys ∧ (xs = [] ∨ ys = []) ∧ Q (.bl (decide (xs.length = ys.length))) H
def xNeE (K : PySem.W.Frag) : R2 := fun x y H Q => ∃ a b xs ys, x = .ref a ∧ y = .ref b ∧ SqL K H a xs ∧ SqL K H b ys ∧ (xs = [] ∨ ys = []) ∧ Q (.bl (!decide (xs.length = ys.length))) H
section
variable {X : Cx}
end
theorem hu64 {A : Around} {k : Nat} (hr : Room k A) : A.units + 64 < cLine := hr.units
def tOpC (r : R2) (ta : TE) (v : V) : TE := fun σ H Q => ta σ H fun x H1 => r x v H1 Q
def tOpD (r : R2) (v : V) (tb : TE) : TE := fun σ H Q => tb σ H fun y H1 => r v y H1 Q
def tConsC (v : V) (tr : TA) : TA := fun σ H Q => tr σ H fun xs H1 => Q (v :: xs) H1
def gSubC (to : TE) (i : V) (t : TSet) : TG := fun v σ H Q => to σ H fun o H1 => t o i v H1 fun H3 => Q σ H3
section
variable {X : Cx} {a b e : Expr} {es : List Expr} {r : R2} {ta tb : TE} {t : TA} {v : V} {pos : Pos}
theorem pe_opC {op : Operator} (ho : OpR X (binaryOp op) r) (ha : PE X a ta) (hb : PE X b (tC v)) : PE X (.BinOp a op b pos) (tOpC r ta v) := pe_op ho ha hb
theorem pe_opD {op : Operator} (ho : OpR X (binaryOp op) r) (ha : PE X a (tC v)) (hb : PE X b tb) : PE X (.BinOp a op b pos) (tOpD r v tb) := pe_op ho ha hb
theorem pe_cmpRC {op : CmpOp} (ho : OpR X (compareOp op) r) (ha : PE X a ta) (hb : PE X b (tC v)) (hm : behindInMarks op b = false) : PE X (.Compare a [op] [b] pos) (tOpC r ta v) := pe_cmpR ho ha hb hm
theorem pt_cmpRC {op : CmpOp} (ho : OpR X (compareOp op) r) (ha : PE X a ta) (hb : PE X b (tC v)) (hm : behindInMarks op b = false) : PT X (.Compare a [op] [b] pos) (tTest (tOpC r ta v)) := pt_cmpR ho ha hb hm
theorem pt_cmpRD {op : CmpOp} (ho : OpR X (compareOp op) r) (ha : PE X a (tC v)) (hb : PE X b tb) (hm : behindInMarks op b = false) : PT X (.Compare a [op] [b] pos) (tTest (tOpD r v tb)) := pt_cmpR ho ha hb hm
theorem pe_ixC (hr : IxR X r) (ha : PE X a ta) (hb : PE X b (tC v)) (hs : PlainIx b) : PE X (.Subscript a b pos) (tOpC r ta v) := pe_ix hr ha hb hs
theorem pa_consC (he : PE X e (tC v)) (hr : PA X es t) (h : starEach (e :: es) X.env = (false, eval e X.env) :: starEach es X.env := by rfl) : PA X (e :: es) (tConsC v t) := pa_cons he hr h
theorem pe_unN {i : Int} (ha : PE X a (tC (.int i))) : PE X (.UnaryOp .USub a pos) (tC (.int (-i))) := by
  refine ⟨fun pins s σ H Q I h => (pe_un un_neg ha).run pins s σ H Q I ?_⟩
  exact ⟨i, rfl, h⟩
theorem pg_subC {t : TSet} (ho : PE X a ta) (hi : PE X b (tC v)) (hs : PSet X t) (ha : ∀ v, assign (.Subscript a b pos) X.env v = (do
      let ov ← holding [v] (eval a X.env)
      let iv ← holding [v, ov] (eval b X.env)
      standAt pos
      holding [v, ov, iv] (setItem ov iv v)
      release [v, ov, iv] []) := by intro _; rfl) : PG X (.Subscript a b pos) (gSubC ta v t) := pg_sub ho hi hs ha
end
section
variable {X : Cx}
theorem two_lists {pins : List (Addr × Obj)} {σ : L2.St} {H : Hp} {s : Shared} {a b : Addr} {xs ys : List V} (I : Inv X pins σ H s) (h1 : SqL X.K H a xs) (h2 : SqL X.K H b ys) :
    ∃ i1 i2 : List Value, s.heap.IsList a i1.toArray ∧ s.heap.IsList b i2.toArray ∧ xs.length = i1.length ∧ ys.length = i2.length := by
  obtain ⟨i1, r1, ⟨o, n, ho, hc, _, hd⟩, _⟩ := I.list h1
  obtain ⟨i2, r2, ⟨o2, n2, ho2, hc2, _, hd2⟩, _⟩ := I.list h2
  exact ⟨i1, i2, ⟨o, ho, hc, n, hd⟩, ⟨o2, ho2, hc2, n2, hd2⟩, r1.length, r2.length⟩
theorem opx_eqE (hu : X.A.units + 1 < cLine) : OpR X (compareOp .Eq) (xEqE X.K) := by
  intro pins s σ H x y v u Q I rx ry h
  obtain ⟨a, b, xs, ys, rfl, rfl, h1, h2, he, q⟩ := h
  cases rx
  cases ry
  obtain ⟨i1, i2, p1, p2, l1, l2⟩ := two_lists I h1 h2
  show wpAny (model X.prog X.w) X.A (richCompare .Eq (.ref a) (.ref b)) _ _ s
  by_cases e : xs.length = ys.length
  · rw [decide_eq_true e] at q
    have z : i1 = [] ∧ i2 = [] := by
      constructor <;> apply List.eq_nil_of_length_eq_zero <;> rcases he with he | he <;> subst he <;> simp at e l1 l2 <;> simp_all
    obtain ⟨z1, z2⟩ := z
    subst z1
    subst z2
    exact SeqAt.RcAt.lists (e := fun _ => true) p1 p2 rfl (by omega) (fun j h _ => absurd h (by simp)) _ _ _ _ ⟨.bl true, H, I, rfl, q⟩
  · rw [decide_eq_false e] at q
    exact SeqAt.RcAt.lists_lengths p1 p2 (by rw [List.size_toArray, List.size_toArray, ← l1, ← l2]; simpa using e) (by omega) _ _ _ _ ⟨.bl false, H, I, rfl, q⟩
theorem opx_neE (hu : X.A.units + 1 < cLine) : OpR X (compareOp .NotEq) (xNeE X.K) := by
  intro pins s σ H x y v u Q I rx ry h
  obtain ⟨a, b, xs, ys, rfl, rfl, h1, h2, he, q⟩ := h
  cases rx
  cases ry
  obtain ⟨i1, i2, p1, p2, l1, l2⟩ := two_lists I h1 h2
  show wpAny (model X.prog X.w) X.A (richCompare .NotEq (.ref a) (.ref b)) _ _ s
  by_cases e : xs.length = ys.length
  · rw [decide_eq_true e] at q
    have z : i1 = [] ∧ i2 = [] := by
      constructor <;> apply List.eq_nil_of_length_eq_zero <;> rcases he with he | he <;> subst he <;> simp at e l1 l2 <;> simp_all
    obtain ⟨z1, z2⟩ := z
    subst z1
    subst z2
    exact SeqAt.RcNeAt.lists (e := fun _ => true) p1 p2 rfl (by omega) (fun j h _ => absurd h (by simp)) _ _ _ _ ⟨.bl false, H, I, rfl, q⟩
  · rw [decide_eq_false e] at q
    exact SeqAt.RcNeAt.lists_lengths p1 p2 (by rw [List.size_toArray, List.size_toArray, ← l1, ← l2]; simpa using e) (by omega) _ _ _ _ ⟨.bl true, H, I, rfl, q⟩
end

section
variable {X : Cx} {x : Str} {pos : Pos}
theorem pe_gint {i : Int} (hg : Gl X x) (hm : ∃ t, X.mg x = some (.int i t)) (hd : (x == ("__debug__" : Str)) = false := by decide) : PE X (.Name x pos) (tC (.int i)) := by
  obtain ⟨t, e⟩ := hm
  exact pe_glob hg e ⟨t, rfl⟩ hd
def tIsi (K : PySem.W.Frag) (c : String) (ta : TE) : TE := fun σ H Q => ta σ H fun x H1 => rIsi K [x, .ty c] H1 Q
theorem pe_isi {a b : Expr} {c : String} {ta : TE} {p pos : Pos} (hg : Gl X "isinstance") (hm : X.mg "isinstance" = none) (ha : PE X a ta) (hb : PE X b (tC (.ty c)))
    (e1 : starEach [a, b] X.env = (false, eval a X.env) :: starEach [b] X.env := by rfl) (e3 : starEach [b] X.env = (false, eval b X.env) :: starEach [] X.env := by rfl) (e2 : (backTo pos (starEach [b] X.env)).any (·.1) = false := by rfl) :
    PE X (.Call (.Name "isinstance" p) [a, b] [] pos) (tIsi X.K c ta) := pe_callB call_isi hg hm (by decide +kernel) (pa_cons ha (pa_cons hb pa_nil e3) e1) (by decide) (by decide) e1 e2
def tCB1 (r : List V → Hp → VK → Prop) (ta : TE) : TE := fun σ H Q => ta σ H fun x H1 => r [x] H1 Q
theorem pe_callB1 {a : Expr} {ta : TE} {r : List V → Hp → VK → Prop} {id : String} {p : Pos} (hc : CallR X (.builtin id) r) (hg : Gl X x) (hm : X.mg x = none) (hv : bootBuiltins x = some (.builtin id)) (ha : PE X a ta) (hn : x ≠ "__name__" := by decide) (hd : (x == ("__debug__" : Str)) = false := by decide)
    (e1 : starEach [a] X.env = (false, eval a X.env) :: starEach [] X.env := by rfl) : PE X (.Call (.Name x p) [a] [] pos) (tCB1 r ta) := pe_callB hc hg hm hv (pa_cons ha pa_nil e1) hn hd e1 rfl
theorem pe_callTy1 {a : Expr} {ta : TE} {r : List V → Hp → VK → Prop} {T : String} {p : Pos} (hc : CallR X (.type T) r) (hg : Gl X x) (hm : X.mg x = none) (hv : bootBuiltins x = some (.type T)) (ha : PE X a ta) (hn : x ≠ "__name__" := by decide) (hd : (x == ("__debug__" : Str)) = false := by decide)
    (e1 : starEach [a] X.env = (false, eval a X.env) :: starEach [] X.env := by rfl) : PE X (.Call (.Name x p) [a] [] pos) (tCB1 r ta) := pe_callTy hc hg hm hv (pa_cons ha pa_nil e1) hn hd e1 rfl
theorem isi_go {K : PySem.W.Frag} {c t : String} {x : V} {H : Hp} {Q : VK} {b : Bool} (ty : TyX K H x (.type t)) (h : kitB t c = some b) (q : Q (.bl b) H) : rIsi K [x, .ty c] H Q :=
  ⟨x, .ty c, _, _, b, rfl, .ty c, ty, kit_ty h, q⟩
end

section
variable {X : Cx}
end

def Can (P : Program) (w : World) (K : PySem.W.Frag) (mg : Str → Option Value) (base : Heap) (k : Nat) (at_ : Str × Option Str) (ps : List Str) (sp : Sp) : Prop :=
  ∃ fd, FnOk P w K mg base (L2.CX P w) k (He.fAd K at_) fd ps sp ∧ Binds K fd ps [] ∧ PySem.W.keepIn K (.ref (He.fAd K at_)) = true
section
variable {P : Program} {w : World} {K : PySem.W.Frag} {mg : Str → Option Value} {base : Heap} {k : Nat} {at_ : Str × Option Str} {ps : List Str} {sp sp' : Sp}
theorem Can.mono {j : Nat} (F : Can P w K mg base j at_ ps sp) (h : j ≤ k) : Can P w K mg base k at_ ps sp := by
  obtain ⟨fd, F, b, kp⟩ := F
  exact ⟨fd, F.mono h, b, kp⟩
theorem Can.imp (F : Can P w K mg base k at_ ps sp) (h : ∀ vs H Q E, sp' vs H Q E → sp vs H Q E) : Can P w K mg base k at_ ps sp' := by
  obtain ⟨fd, F, b, kp⟩ := F
  exact ⟨fd, F.imp h, b, kp⟩
def TupLe (H H' : Hp) : Prop := ∀ a xs, H a = some (.tup xs) → H' a = some (.tup xs)
theorem TupLe.refl (H : Hp) : TupLe H H := fun _ _ h => h
theorem TupLe.trans {H H1 H2 : Hp} (a : TupLe H H1) (b : TupLe H1 H2) : TupLe H H2 := fun x o h => b x o (a x o h)
theorem TupLe.same {H H' : Hp} (a : Same H H') : TupLe H H' := fun x o h => a x _ h
theorem TupLe.put {H H' : Hp} {p : Addr} {o : HO} (a : TupLe H H') (h : ∀ xs, H' p ≠ some (.tup xs)) : TupLe H (upd H' p o) := fun x xs e => by
  have e2 := a x xs e
  rw [upd_ne (fun z => by rw [z] at e2; exact h xs e2)]
  exact e2
end
section
variable {X : Cx} {k : Nat} {x C m : Str} {ps : List Str} {sp : Sp} {E : XK} {p pos apos : Pos} {e o : Expr} {es : List Expr} {ta : TE} {t : TA} {M : Option Str}
theorem pe_callC (F : Can X.prog X.w X.K X.mg X.base k (x, none) ps sp) (hr : Room k X.A) (hg : Gl X x) (hm : X.mg x = some (.ref (He.ga X.K x))) (hx : Passes (L2.CX X.prog X.w) X E)
    (ha : PA X (e :: es) t) (hdb : (x == ("__debug__" : Str)) = false := by decide) (he : starEach (e :: es) X.env = (false, eval e X.env) :: starEach es X.env := by rfl) (hpl : (backTo pos (starEach es X.env)).any (·.1) = false := by rfl) :
    PE X (.Call (.Name x p) (e :: es) [] pos) (tCall sp [] E t) := by
  obtain ⟨fd, F, b, kp⟩ := F
  exact pe_call F hr hg hm kp b .nil hx ha hdb he hpl
end
theorem can_of {P : Program} {w : World} {K : PySem.W.Frag} {mg : Str → Option Value} {base : Heap} {k : Nat} {x qual : Str} {at_ : Str × Option Str} {params : Arguments} {body : List Stmt} {scope : Scope} {N ps : List Str} {sp : Sp} {fd : FuncData}
    (F : FunD K x qual params body scope [] [] (He.fAd K at_) fd) (b : Binds K fd ps []) (S : FnScope N ps scope) (len : ∀ vs H Q E, sp vs H Q E → vs.length = ps.length)
    (t : XK → TS) (h : ∀ (cdv : Value) (A : Around) (outer : List Env) (s : Shared) (H : Hp) (E : XK), Room k (A.deeper (envOfC qual scope s.heap.objs.size (He.fAd K at_) cdv)) →
      PSs (cxOf (L2.CX P w) P w K mg base N qual scope (He.fAd K at_) cdv A outer s H E) body (t E))
    (pure_ : ∀ vs H Q E, sp vs H Q E → t E { nx := fun _ H' => Q .non H', rt := Q } (start N vs) H) : Can P w K mg base (k + 1) at_ ps sp :=
  ⟨fd, F.ok S len fun cdv A outer s H vs Q E hr hsp => ⟨t E, h cdv A outer s H E hr, pure_ vs H Q E hsp⟩, b, F.kp⟩

theorem can_false {P : Program} {w : World} {K : PySem.W.Frag} {mg : Str → Option Value} {base : Heap} {k : Nat} {x qual : Str} {at_ : Str × Option Str} {params : Arguments} {body : List Stmt} {scope : Scope} {ps : List Str} {sp : Sp} {fd : FuncData}
    (F : FunD K x qual params body scope [] [] (He.fAd K at_) fd) (b : Binds K fd ps []) (h : ∀ vs H Q E, ¬ sp vs H Q E) : Can P w K mg base k at_ ps sp :=
  ⟨fd, ⟨fun vs H Q E q => (h vs H Q E q).elim, fun A outer s H args us vs Q E hr he hb hv hs => (h vs H Q E hs).elim⟩, b, F.kp⟩
theorem can_rec {P : Program} {w : World} {K : PySem.W.Frag} {mg : Str → Option Value} {base : Heap} {lev : Nat} {x qual : Str} {at_ : Str × Option Str} {params : Arguments} {body : List Stmt} {scope : Scope} {N ps : List Str} {sp : Nat → Sp} {fd : FuncData}
    (F : FunD K x qual params body scope [] [] (He.fAd K at_) fd) (b : Binds K fd ps []) (S : FnScope N ps scope) (len : ∀ d vs H Q E, sp d vs H Q E → vs.length = ps.length) (no : ∀ vs H Q E, ¬ sp 0 vs H Q E)
    (t : Sp → XK → TS) (h : ∀ (d : Nat), Can P w K mg base (lev + d) at_ ps (sp d) → ∀ (cdv : Value) (A : Around) (outer : List Env) (s : Shared) (H : Hp) (E : XK), Room (lev + d) (A.deeper (envOfC qual scope s.heap.objs.size (He.fAd K at_) cdv)) →
      PSs (cxOf (L2.CX P w) P w K mg base N qual scope (He.fAd K at_) cdv A outer s H E) body (t (sp d) E))
    (pure_ : ∀ d vs H Q E, sp (d + 1) vs H Q E → t (sp d) E { nx := fun _ H' => Q .non H', rt := Q } (start N vs) H) : ∀ d, Can P w K mg base (lev + d) at_ ps (sp d)
  | 0 => can_false F b no
  | d + 1 => can_of F b S (len (d + 1)) (t (sp d)) (h d (can_rec F b S len no t h pure_ d)) (pure_ d)

end Rs

namespace Rs
open PySem PySem.Spec PyProof.Rows L2
section
variable {α β : Type} {F G : α → β → Prop}
theorem P2.get : ∀ {l : List α} {m : List β}, Paired F l m → ∀ {i : Nat} {a : α}, l[i]? = some a → ∃ b, m[i]? = some b ∧ F a b
  | _, _, .nil, _, _, e => by simp at e
  | _, _, .cons h t, 0, a, e => by simp at e; subst e; exact ⟨_, rfl, h⟩
  | _, _, .cons h t, i + 1, a, e => by simpa using P2.get t (i := i) (by simpa using e)
theorem P2.get' : ∀ {l : List α} {m : List β}, Paired F l m → ∀ {i : Nat} {b : β}, m[i]? = some b → ∃ a, l[i]? = some a ∧ F a b
  | _, _, .nil, _, _, e => by simp at e
  | _, _, .cons h t, 0, a, e => by simp at e; subst e; exact ⟨_, rfl, h⟩
  | _, _, .cons h t, i + 1, a, e => by simpa using P2.get' t (i := i) (by simpa using e)
theorem P2.mono (f : ∀ a b, F a b → G a b) : ∀ {l : List α} {m : List β}, Paired F l m → Paired G l m
  | _, _, .nil => .nil
  | _, _, .cons h t => .cons (f _ _ h) (P2.mono f t)
theorem P2.app : ∀ {l l' : List α} {m m' : List β}, Paired F l m → Paired F l' m' → Paired F (l ++ l') (m ++ m')
  | _, _, _, _, .nil, q => q
  | _, _, _, _, .cons h t, q => .cons h (P2.app t q)
theorem P2.one {a : α} {b : β} (h : F a b) : Paired F [a] [b] := .cons h .nil
theorem P2.take : ∀ (n : Nat) {l : List α} {m : List β}, Paired F l m → Paired F (l.take n) (m.take n)
  | 0, _, _, _ => .nil
  | _ + 1, _, _, .nil => .nil
  | n + 1, _, _, .cons h t => .cons h (P2.take n t)
theorem P2.drop : ∀ (n : Nat) {l : List α} {m : List β}, Paired F l m → Paired F (l.drop n) (m.drop n)
  | 0, _, _, q => q
  | _ + 1, _, _, .nil => .nil
  | n + 1, _, _, .cons h t => P2.drop n t
theorem P2.set {a : α} {b : β} (h : F a b) : ∀ (n : Nat) {l : List α} {m : List β}, Paired F l m → Paired F (l.set n a) (m.set n b)
  | _, _, _, .nil => .nil
  | 0, _, _, .cons _ t => .cons h t
  | n + 1, _, _, .cons q t => .cons q (P2.set h n t)
theorem P2.erase : ∀ (n : Nat) {l : List α} {m : List β}, Paired F l m → Paired F (l.eraseIdx n) (m.eraseIdx n)
  | _, _, _, .nil => .nil
  | 0, _, _, .cons _ t => t
  | n + 1, _, _, .cons q t => .cons q (P2.erase n t)
theorem P2.map {γ : Type} {f : γ → α} {g : γ → β} : ∀ (l : List γ), (∀ x ∈ l, F (f x) (g x)) → Paired F (l.map f) (l.map g)
  | [], _ => .nil
  | x :: l, h => .cons (h x (List.mem_cons_self ..)) (P2.map l fun y hy => h y (List.mem_cons_of_mem _ hy))
theorem P2.last {l : List α} {m : List β} {a : α} {b : β} (h : Paired F (l ++ [a]) (m ++ [b])) : F a b := by
  have e : (l ++ [a]).length = (m ++ [b]).length := h.length
  simp at e
  obtain ⟨b', h1, h2⟩ := P2.get h (i := l.length) (a := a) (by simp)
  rw [e] at h1
  simp at h1
  rw [h1]
  exact h2
end
abbrev Rel (α : Type) := Hp → V → α → Prop
def Stable {α : Type} (R : Rel α) : Prop := ∀ (H H' : Hp) (v : V) (x : α), TupLe H H' → R H v x → R H' v x
def IsTp (H : Hp) (v : V) (xs : List V) : Prop := ∃ a, v = .ref a ∧ H a = some (.tup xs)
theorem IsTp.mono {H H' : Hp} {v : V} {xs : List V} (t : TupLe H H') (h : IsTp H v xs) : IsTp H' v xs := let ⟨a, e, q⟩ := h; ⟨a, e, t a xs q⟩
abbrev Row := List Key
abbrev Pr := Int × Row
abbrev Ord := List (Nat × Bool)
def wayS (b : Bool) : Str := if b = true then "up" else "down"
def RowAt : Rel Row := fun H v r => IsTp H v (r.map kV)
def PairAt : Rel Pr := fun H v p => ∃ w, IsTp H v [.int p.1, w] ∧ RowAt H w p.2
def TurnAt : Rel (Nat × Bool) := fun H v t => IsTp H v [.int (t.1 : Int), .str (wayS t.2)]
def IntAt : Rel Int := fun _ v i => v = .int i
def KeyAt : Rel Key := fun _ v i => v = kV i
theorem RowAt.st : Stable RowAt := fun _ _ _ _ t h => IsTp.mono t h
theorem PairAt.st : Stable PairAt := fun _ _ _ _ t ⟨w, a, b⟩ => ⟨w, a.mono t, b.mono t⟩
theorem TurnAt.st : Stable TurnAt := fun _ _ _ _ t h => IsTp.mono t h
theorem IntAt.st : Stable IntAt := fun _ _ _ _ _ h => h
theorem KeyAt.st : Stable KeyAt := fun _ _ _ _ _ h => h
def Lst {α : Type} (R : Rel α) (H : Hp) (l : Addr) (xs : List α) : Prop := ∃ vs, H l = some (.lst vs) ∧ Paired (R H) vs xs
def LstV {α : Type} (R : Rel α) : Rel (List α) := fun H v xs => ∃ l, v = .ref l ∧ Lst R H l xs
section
variable {α : Type} {R : Rel α} {H H' : Hp} {l : Addr} {xs : List α}
theorem Lst.len (h : Lst R H l xs) : ∃ vs, H l = some (.lst vs) ∧ vs.length = xs.length := let ⟨vs, a, b⟩ := h; ⟨vs, a, b.length⟩
theorem Paired.tl (s : Stable R) (t : TupLe H H') {vs : List V} (h : Paired (R H) vs xs) : Paired (R H') vs xs := P2.mono (fun v x q => s H H' v x t q) h
theorem Lst.keep (s : Stable R) (t : TupLe H H') (h : Lst R H l xs) (e : ∀ o, H l = some o → H' l = some o) : Lst R H' l xs := let ⟨vs, a, b⟩ := h; ⟨vs, e _ a, Paired.tl s t b⟩
theorem Lst.same (s : Stable R) (k : Same H H') (h : Lst R H l xs) : Lst R H' l xs := h.keep s (TupLe.same k) fun o => k l o
theorem LstV.same (s : Stable R) (k : Same H H') {v : V} (h : LstV R H v xs) : LstV R H' v xs := let ⟨l, e, q⟩ := h; ⟨l, e, q.same s k⟩
end
theorem Same.new {H : Hp} {p : Addr} {o : HO} (h : H p = none) : Same H (upd H p o) := fun a u e => by
  rw [upd_ne (ne_of_none e h)]
  exact e
theorem Same.mut {H H' : Hp} {p : Addr} {o : HO} (e : Same H H') (h : H p = none) : Same H (upd H' p o) := fun a u ha => by
  rw [upd_ne (ne_of_none ha h)]
  exact e a u ha
theorem TupLe.new {H : Hp} {p : Addr} {o : HO} (h : H p = none) : TupLe H (upd H p o) := TupLe.same (Same.new h)
theorem TupLe.list {H H' : Hp} {p : Addr} {o : HO} {vs : List V} (a : TupLe H H') (h : H' p = some (.lst vs)) : TupLe H (upd H' p o) := a.put fun xs e => by rw [h] at e; cases e
def But (S : List Addr) (H H' : Hp) : Prop := ∀ b o, H b = some o → b ∉ S → H' b = some o
theorem But.refl (S : List Addr) (H : Hp) : But S H H := fun _ _ h _ => h
theorem But.trans {S : List Addr} {H H1 H2 : Hp} (a : But S H H1) (b : But S H1 H2) : But S H H2 := fun c o h n => b c o (a c o h n) n
theorem But.same {S : List Addr} {H H1 : Hp} (a : Same H H1) : But S H H1 := fun c o h _ => a c o h
theorem But.new {S : List Addr} {H H1 : Hp} {p : Addr} {o : HO} (a : But S H H1) (h : H1 p = none) : But S H (upd H1 p o) := fun c u e n => by
  have e2 := a c u e n
  rw [upd_ne (ne_of_none e2 h)]
  exact e2
theorem But.put {S : List Addr} {H H1 : Hp} {p : Addr} {o : HO} (a : But S H H1) (h : p ∈ S) : But S H (upd H1 p o) := fun c u e n => by
  rw [upd_ne (fun z => n (by rw [z]; exact h))]
  exact a c u e n
end Rs
namespace Rs
open PySem PySem.Spec PyProof.Rows L2
theorem But.mut {S : List Addr} {H H1 : Hp} {p : Addr} {o : HO} (a : But S H H1) (h : H p = none) : But S H (L2.upd H1 p o) := fun c u e n => by
  rw [upd_ne (ne_of_none e h)]
  exact a c u e n
theorem But.fresh {S : List Addr} {H H0 H1 : Hp} (a : But S H H1) (s : Same H0 H) (h : ∀ x ∈ S, H0 x = none) : Same H0 H1 := fun c u e => a c u (s c u e) fun z => by
  rw [h c z] at e
  cases e
theorem none_of_but {S : List Addr} {H H1 : Hp} {p : Addr} (a : But S H H1) (h : H1 p = none) (n : p ∉ S) : H p = none := by
  cases q : H p with
  | none => rfl
  | some o =>
    rw [a p o q n] at h
    cases h
theorem ixN_nat {n j : Nat} (h : j < n) : ixN n (j : Int) = some j := by
  unfold ixN
  rw [if_pos (by omega), if_pos (by omega)]
  simp
section
variable {K : PySem.W.Frag} {H : Hp} {Q : VK} {x v : V} {xs : List V} {i : Int} {j : Nat}
theorem ixT (h : IsTp H x xs) (hi : i = (j : Int)) (e : xs[j]? = some v) (q : Q v H) : rIxT K x (.int i) H Q := by
  obtain ⟨a, rfl, h⟩ := h
  exact ⟨a, xs, i, v, rfl, rfl, SqT.of h, at_of hi e, q⟩
theorem ixL {a : Addr} (h : H a = some (.lst xs)) (hi : i = (j : Int)) (e : xs[j]? = some v) (q : Q v H) : rIxL K (.ref a) (.int i) H Q := ⟨a, xs, i, v, rfl, rfl, SqL.of h, at_of hi e, q⟩
theorem lenL {a : Addr} (h : H a = some (.lst xs)) {n : Int} (e : n = (xs.length : Int)) (q : Q (.int n) H) : xLen K [.ref a] H Q := by
  subst e
  exact ⟨a, xs, rfl, .inl (SqL.of h), q⟩
theorem neE {a p : Addr} (h : H a = some (.lst xs)) (hp : H p = none) {b : Bool} (e : b = !xs.isEmpty) (q : Q (.bl b) (upd H p (.lst []))) : xNeE K (.ref a) (.ref p) (upd H p (.lst [])) Q := by
  subst e
  refine ⟨a, p, xs, [], rfl, rfl, SqL.of (by rw [upd_ne (ne_of_none h hp)]; exact h), SqL.of upd_same, .inr rfl, ?_⟩
  cases xs <;> exact q
theorem eqE {a p : Addr} (h : H a = some (.lst xs)) (hp : H p = none) {b : Bool} (e : b = xs.isEmpty) (q : Q (.bl b) (upd H p (.lst []))) : xEqE K (.ref a) (.ref p) (upd H p (.lst [])) Q := by
  subst e
  refine ⟨a, p, xs, [], rfl, rfl, SqL.of (by rw [upd_ne (ne_of_none h hp)]; exact h), SqL.of upd_same, .inr rfl, ?_⟩
  cases xs <;> exact q
end
theorem lc_yes {σ : L2.St} {H : Hp} {A B : Hp → Prop} (h : A H) : tYes σ H (fun b H3 => if b = true then A H3 else B H3) := by
  show if true = true then A H else B H
  rw [if_pos rfl]
  exact h
theorem sz0 : (0 : Nat) ≤ sizeLine := Nat.zero_le _
theorem szle {n : Nat} (h : n ≤ 100000) : n ≤ sizeLine := Nat.le_trans h (by decide)
theorem szlt {n : Nat} (h : n < 100000) : n < sizeLine := Nat.lt_of_lt_of_le h (by decide)
def keyLt : Key → Key → Bool
  | .inl i, .inl j => decide (i < j)
  | .inr s, .inr t => decide (s.cps.toList < t.cps.toList)
  | _, _ => false
def kcol (r : Row) (c : Nat) : Key := r.getD c (.inl 0)
def before : Ord → Pr → Pr → Bool
  | [], p, q => decide (p.1 < q.1)
  | t :: o, p, q => if kcol p.2 t.1 = kcol q.2 t.1 then before o p q else (keyLt (kcol p.2 t.1) (kcol q.2 t.1) == t.2)
def Cmp (o : Ord) (p q : Row) : Prop := ∀ t ∈ o, t.1 < p.length ∧ t.1 < q.length ∧ (kcol p t.1).isLeft = (kcol q t.1).isLeft
theorem newS {H H1 : Hp} {q : Addr} {o : HO} (h : H q = none) (e : L2.upd H q o = H1) : Same H H1 := by
  subst e
  exact Rs.Same.new h
theorem newE {H H1 : Hp} {q : Addr} {o : HO} (e : L2.upd H q o = H1) : H1 q = some o := by
  subst e
  exact upd_same
end Rs

namespace Rs
open PySem PySem.Spec PyProof.Rows L2
def letters : List Nat := ("abcdefghijklmnopqrstuvwxyz" : Str).cps.toList
def isValue (k : Str) : Key → Bool
  | .inl i => decide (k ≠ "word") && (decide (-999 ≤ i) && decide (i ≤ 999))
  | .inr s => decide (k = "word") && (decide (s.length ≤ 6) && s.cps.toList.all fun c => decide (c ∈ letters))
def isRow (ks : List Str) (r : Row) : Bool := decide (r.length = ks.length) && (List.range ks.length).all fun i => isValue (ks.getD i "") (kcol r i)
structure GoodKinds (ks : List Str) : Prop where
  pos : 1 ≤ ks.length
  le : ks.length ≤ 4
  all : ∀ k ∈ ks, k = "number" ∨ k = "word"
structure GoodOrd (ks : List Str) (o : Ord) : Prop where
  ne : o ≠ []
  col : ∀ t ∈ o, t.1 < ks.length
  nd : (o.map (·.1)).Nodup
theorem isRow_len {ks : List Str} {r : Row} (h : isRow ks r = true) : r.length = ks.length := by
  unfold isRow at h
  simp only [Bool.and_eq_true, decide_eq_true_eq] at h
  exact h.1
theorem isRow_val {ks : List Str} {r : Row} (h : isRow ks r = true) {i : Nat} (hi : i < ks.length) : isValue (ks.getD i "") (kcol r i) = true := by
  unfold isRow at h
  simp only [Bool.and_eq_true, decide_eq_true_eq, List.all_eq_true, List.mem_range] at h
  exact h.2 i hi
theorem Cmp.tail {t : Nat × Bool} {o : Ord} {p q : Row} (h : Cmp (t :: o) p q) : Cmp o p q := fun u hu => h u (List.mem_cons_of_mem _ hu)
theorem Cmp.head {t : Nat × Bool} {o : Ord} {p q : Row} (h : Cmp (t :: o) p q) : (kcol p t.1).isLeft = (kcol q t.1).isLeft := (h t (List.mem_cons_self ..)).2.2
structure Fine (ks : List Str) (xs : List Pr) : Prop where
  row : ∀ p ∈ xs, isRow ks p.2 = true
  nd : (xs.map (·.1)).Nodup
theorem Fine.perm {ks : List Str} {xs ys : List Pr} (h : Fine ks xs) (p : ys.Perm xs) : Fine ks ys := ⟨fun q hq => h.row q (p.mem_iff.mp hq), (p.map (·.1)).nodup_iff.mpr h.nd⟩
theorem Fine.sub {ks : List Str} {xs ys : List Pr} (h : Fine ks xs) (s : ys.Sublist xs) : Fine ks ys := ⟨fun q hq => h.row q (s.subset hq), h.nd.sublist (s.map (·.1))⟩
theorem Fine.take {ks : List Str} {xs : List Pr} (h : Fine ks xs) (n : Nat) : Fine ks (xs.take n) := h.sub (List.take_sublist _ _)
theorem Fine.drop {ks : List Str} {xs : List Pr} (h : Fine ks xs) (n : Nat) : Fine ks (xs.drop n) := h.sub (List.drop_sublist _ _)
def Up (o : Ord) (xs : List Pr) : Prop := xs.Pairwise fun p q => before o p q = true
end Rs

namespace Rs
open PySem PySem.Spec PyProof.Rows L2
structure Box (H : Hp) (a l : Addr) : Prop where
  ex : ∃ (ns : List Int) (st : Int), H a = some (.lst [.ref l, .int st]) ∧ H l = some (.lst (ns.map V.int)) ∧ 0 ≤ st
theorem Box.ne {H : Hp} {a l : Addr} (b : Box H a l) : a ≠ l := by
  obtain ⟨ns, st, h1, h2, _⟩ := b.ex
  intro e
  subst e
  rw [h1] at h2
  cases ns with
  | nil => cases h2
  | cons n ns => cases h2
theorem Box.keep {H H' : Hp} {a l : Addr} (b : Box H a l) (h1 : ∀ o, H a = some o → H' a = some o) (h2 : ∀ o, H l = some o → H' l = some o) : Box H' a l := by
  obtain ⟨ns, st, e1, e2, h⟩ := b.ex
  exact ⟨ns, st, h1 _ e1, h2 _ e2, h⟩
theorem Box.same {H H' : Hp} {a l : Addr} (b : Box H a l) (s : Same H H') : Box H' a l := b.keep (fun o => s a o) fun o => s l o
theorem Box.tup {H H' : Hp} {a l : Addr} (b : Box H a l) (k : But [a, l] H H') : TupLe H H' := fun c xs e => by
  obtain ⟨ns, st, e1, e2, h⟩ := b.ex
  refine k c _ e ?_
  intro hm
  simp at hm
  rcases hm with rfl | rfl
  · rw [e1] at e; cases e
  · rw [e2] at e; cases e
theorem un {H : Hp} {a p : Addr} {o u : HO} (h : H a = some o) (hp : H p = none) : upd H p u a = some o := by
  rw [upd_ne (ne_of_none h hp)]
  exact h
theorem up {H : Hp} {a p : Addr} {o u : HO} (h : H a = some o) (hp : a ≠ p) : upd H p u a = some o := by
  rw [upd_ne hp]
  exact h
theorem nn {a b c : Addr} (h1 : a ≠ b) (h2 : a ≠ c) : a ∉ [b, c] := by
  intro hm
  simp at hm
  rcases hm with h | h
  · exact h1 h
  · exact h2 h
abbrev N_law_begun : List Str := ["_law_script", "_law_stirred", "_law_cell"]
abbrev P_law_begun : List Str := ["_law_script"]
def sp_law_begun (K : PySem.W.Frag) : Sp := fun vs H Q E => match vs with
  | [s] => ∃ (p : Addr) (ns : List Int), s = .ref p ∧ SqL K H p (ns.map V.int) ∧ ns.length ≤ 63 ∧ ∀ a l H', H a = none → H l = none → Box H' a l → Same H H' → Q (.ref a) H'
  | _ => False
def t_law_begun (K : PySem.W.Frag) (E : XK) : TS := (tSeq (tAsg (tC (.int 0)) (gName 1))
  (tSeq (tFor (iList K (tVar 0)) (gName 2) (tAsg (tOpC xMod (tOpC xAdd (tOp xAdd (tOpC xMul (tVar 1) (.int 48271)) (tOpC xMul (tVar 2) (.int 69621))) (.int 11)) (.int 2147483647)) (gName 1)))
   (tRet (tLst (tCons (tCB1 (xList K) (tVar 0)) (tCons (tOp xMul (tVar 1) (tCB1 xInt (tOpC xGt (tCB1 (xLen K) (tVar 0)) (.int 2)))) tNil))))))
theorem pure_law_begun {K : PySem.W.Frag} : ∀ vs H Q E, sp_law_begun K vs H Q E → t_law_begun K E { nx := fun _ H' => Q .non H', rt := Q } (start N_law_begun vs) H := by
  intro vs H Q E h
  match vs, h with
  | [s], h =>
    obtain ⟨p, ns, rfl, hs, hlen, k⟩ := h
    refine ⟨_, rfl, p, rfl, ⟨_, hs⟩, for_list (K := K) (a := p) (xs := ns.map V.int) (fun i σ H' => ∃ (st : Int) (x2 : Option V), σ = [some (.ref p), some (.int st), x2] ∧ H' = H ∧ 0 ≤ st) ⟨0, none, rfl, rfl, Int.le_refl _⟩ ?_ ?_ ?_⟩
    · rintro i σ H' _ ⟨_, _, _, rfl, _⟩
      exact hs
    · rintro i v σ H' hi ⟨st, x2, rfl, rfl, h0⟩
      rw [List.getElem?_map] at hi
      obtain ⟨n, hn, rfl⟩ := Option.map_eq_some_iff.mp hi
      refine ⟨_, rfl, _, _, rfl, rfl, .inr ⟨by decide, by decide⟩, _, rfl, _, _, rfl, rfl, .inr ⟨by decide, by decide⟩, _, _, rfl, rfl, _, _, rfl, rfl, _, _, rfl, rfl, by show (0 : Int) < 2147483647; decide, ?_⟩
      exact ⟨_, _, rfl, rfl, Int.emod_nonneg _ (by decide)⟩
    · rintro σ H' ⟨st, x2, rfl, rfl, h0⟩
      refine ⟨_, rfl, p, _, rfl, .inl hs, fun l hl => ?_⟩
      have hs1 : SqL K (upd H' l (.lst (ns.map V.int))) p (ns.map V.int) := Same.seq (Rs.Same.new hl) hs
      refine ⟨_, rfl, _, rfl, p, _, rfl, .inl hs1, _, _, rfl, rfl, .inr ⟨_, rfl, ?_⟩⟩
      have hb : ∀ b : Bool, CMul st (if b = true then 1 else 0) := fun b => by cases b <;> exact .inr ⟨by decide, by decide⟩
      refine ⟨_, _, rfl, rfl, hb _, szle (by show 2 ≤ 100000; decide), fun a ha => ?_⟩
      have nal : l ≠ a := ne_of_none upd_same ha
      have hz : ∀ b : Bool, 0 ≤ st * (if b = true then (1 : Int) else 0) := fun b => by cases b <;> simp [h0]
      refine k a l _ (none_of_but (S := []) (But.same (Rs.Same.new hl)) ha (by simp)) hl ⟨ns, _, upd_same, by rw [upd_ne nal]; exact upd_same, hz _⟩ (Same.trans (Rs.Same.new hl) (Rs.Same.new ha))
abbrev N_law_take : List Str := ["_law_box", "_law_many", "_law_number"]
abbrev P_law_take : List Str := ["_law_box", "_law_many"]
def sp_law_take (K : PySem.W.Frag) : Sp := fun vs H Q E => match vs with
  | [b, m] => ∃ a l n, b = .ref a ∧ m = .int n ∧ 0 < n ∧ n ≤ 1000000000000000000 ∧ Box H a l ∧ ∀ r H', 0 ≤ r → r < n → Box H' a l → But [a, l] H H' → Q (.int r) H'
  | _ => False
def t_law_take (K : PySem.W.Frag) (E : XK) : TS := (tSeq (tIfS (tTest (tOp (xEqE K) (tOpC (rIxL K) (tVar 0) (.int 0)) (tLst tNil))) 
    (tSeq (tAsg (tOpC xMod (tOpC xMul (tOpC (rIxL K) (tVar 0) (.int 1)) (.int 48271)) (.int 2147483647)) (gSubC (tVar 0) (.int 1) rSetL))
    (tRet (tOp xMod (tOpC xDiv (tOpC (rIxL K) (tVar 0) (.int 1)) (.int 7)) (tVar 1)))) tNext)
  (tSeq (tAsg (tOpC (rIxL K) (tOpC (rIxL K) (tVar 0) (.int 0)) (.int 0)) (gName 2))
   (tSeq (tAsg (tOp xDiv (tVar 2) (tVar 1)) (gSubC (tOpC (rIxL K) (tVar 0) (.int 0)) (.int 0) rSetL))
    (tSeq (tIfS (tOr (tTest (tOpC rEq (tOpC (rIxL K) (tOpC (rIxL K) (tVar 0) (.int 0)) (.int 0)) (.int 0))) (tTest (tOpC rEq (tOpC (rIxL K) (tOpC (rIxL K) (tVar 0) (.int 0)) (.int 0)) (.int (-1))))) (tDrop (tBM K "list" rPopAt (tOpC (rIxL K) (tVar 0) (.int 0)) (tConsC (.int 0) tNil))) tNext)
     (tRet (tOp xMod (tVar 2) (tVar 1)))))))
theorem ixN_zero {n : Nat} : ixN (n + 1) 0 = some 0 := by
  unfold ixN
  rw [if_pos (by omega), if_pos (by omega)]
  rfl
theorem seqIx {n j : Nat} (h : j < n) : seqIndex? (j : Int) n = some j := (ixN_seq (ixN_nat h)).1
theorem div_ok {i j : Int} (h : 0 < j) (h2 : j ≤ 1000000000000000000) : CDivW i j := wide_div (b := 60) h (by omega) (by decide) (by decide)
theorem pure_law_take {K : PySem.W.Frag} : ∀ vs H Q E, sp_law_take K vs H Q E → t_law_take K E { nx := fun _ H' => Q .non H', rt := Q } (start N_law_take vs) H := by
  intro vs H Q E h
  match vs, h with
  | [b, m], h =>
    obtain ⟨a, l, n, rfl, rfl, hn, hn2, B, k⟩ := h
    have nal := B.ne
    obtain ⟨ns, st, ha, hl, h0⟩ := B.ex
    refine ⟨_, rfl, ixL ha (j := 0) rfl rfl ⟨sz0, fun p hp => ?_⟩⟩
    have ha1 : upd H p (.lst []) a = _ := un ha hp
    have hl1 : upd H p (.lst []) l = _ := un hl hp
    have s1 : But [a, l] H (upd H p (.lst [])) := But.same (Rs.Same.new hp)
    cases ns with
    | nil =>
      refine eqE hl hp (b := true) rfl ⟨_, rfl, ?_⟩
      refine ⟨_, rfl, ixL ha1 (j := 1) rfl rfl ⟨_, _, rfl, rfl, .inr ⟨by decide, by decide⟩, _, _, rfl, rfl, by show (0 : Int) < 2147483647; decide, ?_⟩⟩
      refine ⟨_, rfl, _, _, _, 1, rfl, rfl, ha1, rfl, ?_⟩
      refine ⟨_, rfl, ixL (j := 1) upd_same rfl rfl ⟨_, _, rfl, rfl, div_ok (by decide) (by decide), _, rfl, _, _, rfl, rfl, hn, ?_⟩⟩
      exact k _ _ (Int.emod_nonneg _ (by omega)) (Int.emod_lt_of_pos _ hn) ⟨[], _, upd_same, by rw [upd_ne nal.symm]; exact hl1, Int.emod_nonneg _ (by decide)⟩ (s1.put (by simp))
    | cons x ns =>
      refine eqE hl hp (b := false) rfl ⟨_, rfl, ?_⟩
      refine ⟨_, rfl, ixL ha1 (j := 0) rfl rfl (ixL hl1 (j := 0) rfl rfl ?_)⟩
      refine ⟨_, rfl, _, rfl, _, _, rfl, rfl, div_ok hn hn2, ?_⟩
      refine ⟨_, rfl, ixL ha1 (j := 0) rfl rfl ⟨_, _, _, 0, rfl, rfl, hl1, ixN_zero, ?_⟩⟩
      have ha2 : upd (upd H p (.lst [])) l (.lst (((x :: ns).map V.int).set 0 (.int (x / n)))) a = _ := up ha1 nal
      have hl2 : upd (upd H p (.lst [])) l (.lst (((x :: ns).map V.int).set 0 (.int (x / n)))) l = some (.lst (((x / n) :: ns).map V.int)) := upd_same
      have s2 : But [a, l] H (upd (upd H p (.lst [])) l (.lst (((x :: ns).map V.int).set 0 (.int (x / n))))) := s1.put (by simp)
      have fin : ∀ H', Box H' a l → But [a, l] H H' → Q (.int (x % n)) H' := fun H' b' k' => k _ _ (Int.emod_nonneg _ (by omega)) (Int.emod_lt_of_pos _ hn) b' k'
      have pop : ∀ D : Ends, (∀ σ H', Box H' a l → But [a, l] H H' → σ = [some (.ref a), some (.int n), some (.int x)] → D.nx σ H') → tDrop (tBM K "list" rPopAt (tOpC (rIxL K) (tVar 0) (.int 0)) (tConsC (.int 0) tNil)) D [some (.ref a), some (.int n), some (.int x)] (upd (upd H p (.lst [])) l (.lst (((x :: ns).map V.int).set 0 (.int (x / n))))) := fun D hD => by
        refine ⟨_, rfl, ixL ha2 (j := 0) rfl rfl ⟨.inl ⟨rfl, _, SqL.of hl2⟩, _, _, _, 0, _, rfl, rfl, hl2, by decide, by decide, seqIx (Nat.zero_lt_succ _), rfl, ?_⟩⟩
        refine hD _ _ ⟨ns, st, up ha2 nal, upd_same, h0⟩ (s2.put (by simp)) rfl
      refine ⟨_, rfl, ixL ha2 (j := 0) rfl rfl (ixL hl2 (j := 0) rfl rfl ⟨rfl, _, rfl, ?_⟩)⟩
      by_cases e : (V.int (x / n)) = .int 0
      · rw [decide_eq_true e]
        refine pop _ fun σ H' b' k' e' => ?_
        subst e'
        exact ⟨_, rfl, _, rfl, _, _, rfl, rfl, hn, fin _ b' k'⟩
      · rw [decide_eq_false e]
        refine ⟨_, rfl, ixL ha2 (j := 0) rfl rfl (ixL hl2 (j := 0) rfl rfl ⟨rfl, _, rfl, ?_⟩)⟩
        by_cases e' : (V.int (x / n)) = .int (-1)
        · rw [decide_eq_true e']
          refine pop _ fun σ H' b' k' e' => ?_
          subst e'
          exact ⟨_, rfl, _, rfl, _, _, rfl, rfl, hn, fin _ b' k'⟩
        · rw [decide_eq_false e']
          exact ⟨_, rfl, _, rfl, _, _, rfl, rfl, hn, fin _ ⟨(x / n) :: ns, st, ha2, hl2, h0⟩ s2⟩
def KindsAt : Rel (List Str) := fun H v ks => IsTp H v (ks.map V.str)
def prs (rows : List Row) : List Pr := (List.range rows.length).map fun (i : Nat) => ((i : Int), rows.getD i [])
end Rs

namespace Rs
open PySem PySem.Spec PyProof.Rows L2
theorem nodup_cast : ∀ {l : List Nat}, l.Nodup → (l.map fun (n : Nat) => (n : Int)).Nodup
  | [], _ => by simp
  | a :: l, h => by
    rw [List.map_cons, List.nodup_cons]
    obtain ⟨h1, h2⟩ := List.nodup_cons.mp h
    refine ⟨fun hm => ?_, nodup_cast h2⟩
    obtain ⟨b, hb, e⟩ := List.mem_map.mp hm
    exact h1 (by have : b = a := by omega
                 rw [← this]; exact hb)
def RowSz (r : Row) : Prop := r.length ≤ 1000 ∧ ∀ s, Sum.inr s ∈ r → s.length ≤ 1000
theorem RowSz.of {ks : List Str} {r : Row} (h : isRow ks r = true) (hk : ks.length ≤ 4) : RowSz r := by
  refine ⟨by rw [isRow_len h]; omega, fun s hs => ?_⟩
  obtain ⟨i, hi, e⟩ := List.mem_iff_getElem.mp hs
  have v := isRow_val h (i := i) (by rw [← isRow_len h]; exact hi)
  have ek : kcol r i = .inr s := by
    unfold kcol
    rw [List.getD_eq_getElem?_getD, List.getElem?_eq_getElem hi, e]
    rfl
  rw [ek] at v
  simp only [isValue, Bool.and_eq_true, decide_eq_true_eq] at v
  omega
def mrg (o : Ord) : List Pr → List Pr → List Pr
  | xs, [] => xs
  | xs, y :: ys => (xs.takeWhile fun x => before o x y) ++ y :: mrg o (xs.dropWhile fun x => before o x y) ys
theorem cut_from {xs : List V} {n : Nat} (h : n ≤ xs.length) : cutV xs (some (n : Int)) none = xs.drop n := by
  unfold cutV
  rw [HT.sIx_nat, HT.sIx_none, Nat.min_eq_left h]
  exact List.take_of_length_le (by rw [List.length_drop]; exact Nat.le_refl _)
theorem cut_to {xs : List V} {n : Nat} (h : n ≤ xs.length) : cutV xs none (some (n : Int)) = xs.take n := by
  unfold cutV
  rw [HT.sIx_nat, HT.sIx_none, Nat.min_eq_left h, List.drop_zero]
  rfl
theorem cut_mid {xs : List V} {i j : Nat} : cutV xs (some (i : Int)) (some (j : Int)) = (xs.drop i).take (j - i) := by
  unfold cutV
  rw [HT.sIx_nat, HT.sIx_nat]
  by_cases hi : i ≤ xs.length
  · rw [Nat.min_eq_left hi]
    by_cases hj : j ≤ xs.length
    · rw [Nat.min_eq_left hj]
    · rw [Nat.min_eq_right (by omega), List.take_of_length_le (by rw [List.length_drop]; exact Nat.le_refl _), List.take_of_length_le (by rw [List.length_drop]; omega)]
  · rw [Nat.min_eq_right (by omega : xs.length ≤ i), List.drop_of_length_le (Nat.le_refl _), List.drop_of_length_le (by omega : xs.length ≤ i)]
    simp
end Rs

namespace Rs
open PySem PySem.Spec PyProof.Rows L2
theorem Fine.left {ks : List Str} {xs ys : List Pr} (h : Fine ks (xs ++ ys)) : Fine ks xs := h.sub (List.sublist_append_left _ _)
theorem Fine.right {ks : List Str} {xs ys : List Pr} (h : Fine ks (xs ++ ys)) : Fine ks ys := h.sub (List.sublist_append_right _ _)
end Rs

namespace Rs
open PySem PySem.Spec PyProof.Rows L2
structure TxtRoom (K : PySem.W.Frag) : Prop where
  cl : Cls K (He.ga K "Room")
  n_order : NoAttr K (He.ga K "Room") "order"
  n_cells : NoAttr K (He.ga K "Room") "cells"
def f_Room (x0 x1 : V) : List (Str × V) := [(("order" : Str), x0), (("cells" : Str), x1)]
def RoomOb (K : PySem.W.Frag) (H : Hp) (p : Addr) (x0 x1 : V) : Prop := ∃ dx, H p = some (.ins (He.ga K "Room") dx (f_Room x0 x1))
section
variable {K : PySem.W.Frag} {x0 x1 y : V} {H : Hp} {Q : VK} {p : Addr} {D : Ends} {σ : L2.St}
end
structure TxtMaker (K : PySem.W.Frag) : Prop where
  cl : Cls K (He.ga K "Maker")
  n_order : NoAttr K (He.ga K "Maker") "order"
  n_size : NoAttr K (He.ga K "Maker") "size"
  n_room : NoAttr K (He.ga K "Maker") "room"
  n_run : NoAttr K (He.ga K "Maker") "run"
  n_last : NoAttr K (He.ga K "Maker") "last"
def f_Maker (x0 x1 x2 x3 x4 : V) : List (Str × V) := [(("order" : Str), x0), (("size" : Str), x1), (("room" : Str), x2), (("run" : Str), x3), (("last" : Str), x4)]
def MakerOb (K : PySem.W.Frag) (H : Hp) (p : Addr) (x0 x1 x2 x3 x4 : V) : Prop := ∃ dx, H p = some (.ins (He.ga K "Maker") dx (f_Maker x0 x1 x2 x3 x4))
section
variable {K : PySem.W.Frag} {x0 x1 x2 x3 x4 y : V} {H : Hp} {Q : VK} {p : Addr} {D : Ends} {σ : L2.St}
end
section
variable {α : Type} {d : α} {cs : List α} {i j k : Nat}
theorem getD_lt (hi : i < cs.length) : cs.getD i d = cs[i] := by
  rw [List.getD_eq_getElem?_getD, List.getElem?_eq_getElem hi]
  rfl
end
section
variable {α : Type} {ok : α → Prop} {lt : α → α → Bool} {d : α}
end
abbrev Cell := Int × Pr
def c0 : Cell := (0, 0, [])
end Rs

namespace Rs
open PySem PySem.Spec PyProof.Rows L2
def CellAt : Rel Cell := fun H v c => ∃ w, IsTp H v [.int c.1, w] ∧ PairAt H w c.2
theorem CellAt.st : Stable CellAt := fun _ _ _ _ t ⟨w, a, b⟩ => ⟨w, a.mono t, PairAt.st _ _ _ _ t b⟩
structure RoomS (K : PySem.W.Frag) (H : Hp) (p lo lc : Addr) (o : Ord) (cs : List Cell) : Prop where
  ob : RoomOb K H p (.ref lo) (.ref lc)
  ord : Lst TurnAt H lo o
  cells : Lst CellAt H lc cs
  ne : lo ≠ lc
theorem RoomOb.keep {K : PySem.W.Frag} {H H' : Hp} {p : Addr} {x y : V} (h : RoomOb K H p x y) (k : ∀ o, H p = some o → H' p = some o) : RoomOb K H' p x y := let ⟨dx, e⟩ := h; ⟨dx, k _ e⟩
theorem RoomOb.same {K : PySem.W.Frag} {H H' : Hp} {p : Addr} {x y : V} (h : RoomOb K H p x y) (s : Same H H') : RoomOb K H' p x y := h.keep fun o => s p o
theorem RoomS.same {K : PySem.W.Frag} {H H' : Hp} {p lo lc : Addr} {o : Ord} {cs : List Cell} (h : RoomS K H p lo lc o cs) (s : Same H H') : RoomS K H' p lo lc o cs := ⟨h.ob.same s, h.ord.same TurnAt.st s, h.cells.same CellAt.st s, h.ne⟩
theorem Lst.cell {α : Type} {R : Rel α} {H : Hp} {l : Addr} {xs : List α} (h : Lst R H l xs) {i : Nat} {x : α} (e : xs[i]? = some x) : ∃ vs v, H l = some (.lst vs) ∧ vs[i]? = some v ∧ R H v x := by
  obtain ⟨vs, a, b⟩ := h
  obtain ⟨v, hv, r⟩ := P2.get' b e
  exact ⟨vs, v, a, hv, r⟩
end Rs

namespace Rs
open PySem PySem.Spec PyProof.Rows L2
end Rs

namespace Rs
open PySem PySem.Spec PyProof.Rows L2
def OptAt : Rel (Option Pr) := fun H v q => match q with
  | none => v = .non
  | some p => PairAt H v p
theorem OptAt.st : Stable OptAt := fun H H' v q t h => match q, h with
  | none, h => h
  | some p, h => PairAt.st H H' v p t h
structure MakerS (K : PySem.W.Frag) (H : Hp) (p lo pr lc : Addr) (o : Ord) (size : Int) (cs : List Cell) (run : Int) (last : Option Pr) : Prop where
  ob : ∃ vl, MakerOb K H p (.ref lo) (.int size) (.ref pr) (.int run) vl ∧ OptAt H vl last
  room : RoomS K H pr lo lc o cs
  ne : p ≠ pr
theorem MakerOb.keep {K : PySem.W.Frag} {H H' : Hp} {p : Addr} {x0 x1 x2 x3 x4 : V} (h : MakerOb K H p x0 x1 x2 x3 x4) (k : ∀ o, H p = some o → H' p = some o) : MakerOb K H' p x0 x1 x2 x3 x4 := let ⟨dx, e⟩ := h; ⟨dx, k _ e⟩
theorem MakerS.same {K : PySem.W.Frag} {H H' : Hp} {p lo pr lc : Addr} {o : Ord} {size : Int} {cs : List Cell} {run : Int} {last : Option Pr} (h : MakerS K H p lo pr lc o size cs run last) (s : Same H H') : MakerS K H' p lo pr lc o size cs run last := by
  obtain ⟨vl, ob, hl⟩ := h.ob
  exact ⟨⟨vl, ob.keep fun u => s p u, OptAt.st _ _ _ _ (TupLe.same s) hl⟩, h.room.same s, h.ne⟩
theorem MakerS.tup {K : PySem.W.Frag} {H H' : Hp} {p lo pr lc : Addr} {o : Ord} {size : Int} {cs : List Cell} {run : Int} {last : Option Pr} (h : MakerS K H p lo pr lc o size cs run last) (k : But [p, lc] H H') : TupLe H H' := fun c xs e => by
  obtain ⟨vl, ⟨dx, e1⟩, _⟩ := h.ob
  obtain ⟨vs, e2, _⟩ := h.room.cells
  exact k c _ e (nn (ne_of e e1 (by intro z; cases z)) (ne_of e e2 (by intro z; cases z)))
def late (o : Ord) (q : Pr) (last : Option Pr) : Bool := match last with
  | none => false
  | some l => before o q l
end Rs

namespace Rs
open PySem PySem.Spec PyProof.Rows L2
def srt (o : Ord) : List Pr → List Pr
  | [] => []
  | x :: xs => mrg o [x] (srt o xs)
def mn (o : Ord) (xs : List Pr) : Pr := (srt o xs).getD 0 c0.2
def outN (n : Int) (xs : List Pr) : List Pr := xs.filter fun q => decide (q.1 ≠ n)
def fillL (o : Ord) (size : Int) (last : Option Pr) : List Pr → List Pr → List Pr → List Pr × List Pr × List Pr
  | [], h, l => ([], h, l)
  | p :: left, h, l => if ((h.length : Int) + (l.length : Int) < size) then (if late o p last then fillL o size last left h (l ++ [p]) else fillL o size last left (h ++ [p]) l) else (p :: left, h, l)
def inner (o : Ord) (size : Int) : Nat → List Pr → List Pr → List Pr → List Pr → List Pr × List Pr × List Pr
  | 0, left, _, l, run => (left, l, run)
  | n + 1, left, h, l, run =>
    if (fillL o size run.getLast? left h l).2.1 = [] then ((fillL o size run.getLast? left h l).1, (fillL o size run.getLast? left h l).2.2, run)
    else inner o size n (fillL o size run.getLast? left h l).1 (outN (mn o (fillL o size run.getLast? left h l).2.1).1 (fillL o size run.getLast? left h l).2.1) (fillL o size run.getLast? left h l).2.2 (run ++ [mn o (fillL o size run.getLast? left h l).2.1])
def outer (o : Ord) (size : Int) : Nat → List Pr → List Pr → List (List Pr) → List (List Pr)
  | 0, _, _, found => found
  | n + 1, left, l, found => if left = [] ∧ l = [] then found else
    outer o size n (inner o size (left.length + l.length + 1) left l [] []).1 (inner o size (left.length + l.length + 1) left l [] []).2.1 (found ++ [(inner o size (left.length + l.length + 1) left l [] []).2.2])
end Rs

namespace Rs
open PySem PySem.Spec PyProof.Rows L2
def cells (k : Int) (h l : List Pr) : List Cell := h.map (fun q => (k, q)) ++ l.map fun q => (k + 1, q)
section
variable {K : PySem.W.Frag} {H : Hp}
theorem dpAll {α : Type} {R : Rel α} {f : α → PyData} (hf : ∀ v x, R H v x → Dp K H v (f x)) : ∀ {vs : List V} {xs : List α}, Paired (R H) vs xs → DpAll K H vs (xs.map f)
  | _, _, .nil => .nil
  | _, _, .cons h t => .cons (hf _ _ h) (dpAll hf t)
end
def okD : Nat → PyData → Prop
  | 0, _ => False
  | _ + 1, .none => True
  | _ + 1, .bool _ => True
  | _ + 1, .int _ => True
  | _ + 1, .str x => PyData.strOk x = true
  | n + 1, .list ds => ds.length ≤ 100000 ∧ ∀ d ∈ ds, okD n d
  | n + 1, .tuple ds => ds.length ≤ 100000 ∧ ∀ d ∈ ds, okD n d
  | _ + 1, _ => False
theorem okD.up : ∀ {n : Nat} {d : PyData}, okD n d → okD (n + 1) d
  | 0, _, h => h.elim
  | n + 1, .none, _ => trivial
  | n + 1, .bool _, _ => trivial
  | n + 1, .int _, _ => trivial
  | n + 1, .str _, h => h
  | n + 1, .list ds, h => ⟨h.1, fun d hd => okD.up (h.2 d hd)⟩
  | n + 1, .tuple ds, h => ⟨h.1, fun d hd => okD.up (h.2 d hd)⟩
theorem okD.ups {n : Nat} {d : PyData} (h : okD n d) : ∀ k, okD (n + k) d
  | 0 => h
  | k + 1 => okD.up (okD.ups h k)
theorem list_ok {α : Type} {f : α → PyData} {xs : List α} {n : Nat} (h : xs.length ≤ 100000) (hf : ∀ x ∈ xs, okD n (f x)) : okD (n + 1) (.list (xs.map f)) := ⟨by rw [List.length_map]; exact h, fun d hd => by
  obtain ⟨x, hx, rfl⟩ := List.mem_map.mp hd
  exact hf x hx⟩
mutual
theorem okD.lay : ∀ (n : Nat) (d : PyData), okD n d → d.canLay0 = true ∧ d.depth ≤ n
  | 0, _, h => h.elim
  | n + 1, .none, _ => ⟨rfl, by simp [PyData.depth]⟩
  | n + 1, .bool _, _ => ⟨rfl, by simp [PyData.depth]⟩
  | n + 1, .int _, _ => ⟨rfl, by simp [PyData.depth]⟩
  | n + 1, .str _, h => ⟨h, by simp [PyData.depth]⟩
  | n + 1, .list ds, h => by
    have := okD.layAll n ds h.2
    simp [PyData.canLay0, PyData.depth, this.1]
    omega
  | n + 1, .tuple ds, h => by
    have := okD.layAll n ds h.2
    simp [PyData.canLay0, PyData.depth, this.1]
    omega
theorem okD.layAll : ∀ (n : Nat) (ds : List PyData), (∀ d ∈ ds, okD n d) → PyData.canLayAll0 ds = true ∧ PyData.depthAll ds ≤ n
  | n, [], _ => ⟨rfl, by simp [PyData.depthAll]⟩
  | n, d :: ds, h => by
    have h1 := okD.lay n d (h d (List.mem_cons_self ..))
    have h2 := okD.layAll n ds fun e he => h e (List.mem_cons_of_mem _ he)
    simp [PyData.canLayAll0, PyData.depthAll, h1.1, h2.1]
    omega
end
theorem okD.shaped {n : Nat} {d : PyData} (h : okD n d) (hn : n ≤ 64) : SeqAt.shaped d = true := by
  have q := okD.lay n d h
  unfold SeqAt.shaped
  rw [q.1, decide_eq_true (Nat.le_trans q.2 hn)]
  rfl
theorem okD.eqv {n : Nat} {d : PyData} (h : okD n d) : PyData.eqv d d = true := SeqAt.eqv_refl d (okD.lay n d h).1
end Rs

namespace Rs
open PySem PySem.Spec PyProof.Rows L2
def RunAt (H0 : Hp) (S : List Addr) : Rel (List Pr) := fun H v xs => ∃ l, v = .ref l ∧ H0 l = none ∧ l ∉ S ∧ Lst PairAt H l xs
section
variable {H0 H H' : Hp} {S S' : List Addr} {v : V} {xs : List Pr} {x l lf : Addr} {found : List (List Pr)}
theorem RunAt.keep (h : RunAt H0 S H v xs) (t : TupLe H H') (k : ∀ l, H0 l = none → l ∉ S → ∀ o, H l = some o → H' l = some o) : RunAt H0 S H' v xs := let ⟨l, e, a, b, c⟩ := h; ⟨l, e, a, b, c.keep PairAt.st t (k l a b)⟩
theorem RunAt.sub (h : RunAt H0 S H v xs) (k : ∀ y ∈ S', y ∈ S) : RunAt H0 S' H v xs := let ⟨l, e, a, b, c⟩ := h; ⟨l, e, a, fun z => b (k _ z), c⟩
theorem RunAt.new (h : RunAt H0 S H v xs) (hx : H x = none) : RunAt H0 (x :: S) H v xs := by
  obtain ⟨l, e, a, b, c⟩ := h
  refine ⟨l, e, a, fun z => ?_, c⟩
  obtain ⟨vs, q, _⟩ := c
  rcases List.mem_cons.mp z with z | z
  · rw [z, hx] at q; cases q
  · exact b z
theorem Runs.sub (h : Lst (RunAt H0 S) H lf found) (k : ∀ y ∈ S', y ∈ S) : Lst (RunAt H0 S') H lf found := let ⟨vs, a, b⟩ := h; ⟨vs, a, P2.mono (fun _ _ q => q.sub k) b⟩
theorem Runs.new (h : Lst (RunAt H0 S) H lf found) (hx : H x = none) : Lst (RunAt H0 (x :: S)) H lf found := let ⟨vs, a, b⟩ := h; ⟨vs, a, P2.mono (fun _ _ q => q.new hx) b⟩
theorem Runs.same (h : Lst (RunAt H0 S) H lf found) (s : Same H H') : Lst (RunAt H0 S) H' lf found := let ⟨vs, a, b⟩ := h; ⟨vs, s _ _ a, P2.mono (fun _ _ q => q.keep (TupLe.same s) fun l _ _ => s l) b⟩
theorem Runs.put {ys : List V} {u : HO} (h : Lst (RunAt H0 S) H lf found) (hx : H x = some (.lst ys)) (hs : x ∈ S) (n : lf ≠ x) : Lst (RunAt H0 S) (upd H x u) lf found := let ⟨vs, a, b⟩ := h; ⟨vs, up a n, P2.mono (fun _ _ q => q.keep ((TupLe.refl H).list hx) fun l _ hl o e => up e fun z => hl (by rw [z]; exact hs)) b⟩
theorem Lst.off {ys : List V} {u : HO} (h : Lst PairAt H l xs) (hx : H x = some (.lst ys)) (n : l ≠ x) : Lst PairAt (upd H x u) l xs := h.keep PairAt.st ((TupLe.refl H).list hx) fun o e => up e n
theorem Lst.on {ys vs : List V} (hx : H l = some (.lst ys)) (p : Paired (PairAt H) vs xs) : Lst PairAt (upd H l (.lst vs)) l xs := ⟨vs, upd_same, Paired.tl PairAt.st ((TupLe.refl H).list hx) p⟩
theorem Runs.add {vs : List V} {ys : List (List Pr)} (hx : H lf = some (.lst vs)) (p : Paired (RunAt H0 S H) vs ys) (hs : lf ∈ S) {lr : Addr} {run : List Pr} (n : lr ≠ lf) (hn : H0 lr = none) (hr : lr ∉ S) (L : Lst PairAt H lr run) : Lst (RunAt H0 S) (upd H lf (.lst (vs ++ [.ref lr]))) lf (ys ++ [run]) := by
  have t : TupLe H (upd H lf (.lst (vs ++ [.ref lr]))) := (TupLe.refl H).list hx
  exact ⟨_, upd_same, P2.app (P2.mono (fun _ _ q => q.keep t fun l _ hl o e => up e fun z => hl (by rw [z]; exact hs)) p) (P2.one ⟨lr, rfl, hn, hr, L.off hx n⟩)⟩
end
structure LR (H0 H : Hp) (a b c d e : Addr) (left here late : List Pr) (found : List (List Pr)) (run : List Pr) : Prop where
  same : Same H0 H
  fr : ∀ x ∈ [a, b, c, d, e], H0 x = none
  nd : [a, b, c, d, e].Nodup
  la : Lst PairAt H a left
  lb : Lst PairAt H b here
  lc : Lst PairAt H c late
  ld : Lst (RunAt H0 [a, b, c, d, e]) H d found
  le : Lst PairAt H e run
section
variable {H0 H H' : Hp} {a b c d e : Addr} {left here late left' here' late' : List Pr} {found : List (List Pr)} {run run' : List Pr} {vs : List V}
theorem nd5 (h : [a, b, c, d, e].Nodup) : ((a ≠ b ∧ a ≠ c ∧ a ≠ d ∧ a ≠ e) ∧ (b ≠ c ∧ b ≠ d ∧ b ≠ e) ∧ (c ≠ d ∧ c ≠ e) ∧ d ≠ e) := by simpa using h
theorem LR.on (L : LR H0 H a b c d e left here late found run) (s : Same H H') : LR H0 H' a b c d e left here late found run := ⟨L.same.trans s, L.fr, L.nd, L.la.same PairAt.st s, L.lb.same PairAt.st s, L.lc.same PairAt.st s, Runs.same L.ld s, L.le.same PairAt.st s⟩
theorem LR.pb (L : LR H0 H a b c d e left here late found run) (p : Paired (PairAt H) vs here') : LR H0 (upd H b (.lst vs)) a b c d e left here' late found run := by
  obtain ⟨⟨ab, ac, ad, ae⟩, ⟨bc, bd, be⟩, ⟨cd, ce⟩, de⟩ := nd5 L.nd
  obtain ⟨ys, hx, _⟩ := L.lb
  exact ⟨Rs.Same.mut L.same (L.fr _ (by simp)), L.fr, L.nd, L.la.off hx ab, Lst.on hx p, L.lc.off hx bc.symm, Runs.put L.ld hx (by simp) bd.symm, L.le.off hx be.symm⟩
theorem LR.pe (L : LR H0 H a b c d e left here late found run) (p : Paired (PairAt H) vs run') : LR H0 (upd H e (.lst vs)) a b c d e left here late found run' := by
  obtain ⟨⟨ab, ac, ad, ae⟩, ⟨bc, bd, be⟩, ⟨cd, ce⟩, de⟩ := nd5 L.nd
  obtain ⟨ys, hx, _⟩ := L.le
  exact ⟨Rs.Same.mut L.same (L.fr _ (by simp)), L.fr, L.nd, L.la.off hx ae, L.lb.off hx be, L.lc.off hx ce, Runs.put L.ld hx (by simp) de, Lst.on hx p⟩
end
end Rs

namespace Rs
open PySem PySem.Spec PyProof.Rows L2
theorem KindsAt.st : Stable KindsAt := fun _ _ _ _ t h => IsTp.mono t h
theorem KindsAt.same {H H' : Hp} {v : V} {ks : List Str} (h : KindsAt H v ks) (s : Same H H') : KindsAt H' v ks := KindsAt.st _ _ _ _ (TupLe.same s) h
end Rs

namespace Rs
open PySem PySem.Spec PyProof.Rows L2
structure EX (K : PySem.W.Frag) (H0 H : Hp) (p lo pr lc a d e : Addr) (o : Ord) (size : Int) (cs : List Cell) (k : Int) (last : Option Pr) (left : List Pr) (found : List (List Pr)) (run : List Pr) : Prop where
  same : Same H0 H
  fr : ∀ x ∈ [p, lc, a, d, e], H0 x = none
  nd : [lc, a, d, e].Nodup
  mm : MakerS K H p lo pr lc o size cs k last
  la : Lst PairAt H a left
  ld : Lst (RunAt H0 [lc, a, d, e]) H d found
  le : Lst PairAt H e run
section
variable {K : PySem.W.Frag} {H0 H H' : Hp} {p lo pr lc a d e : Addr} {o : Ord} {size : Int} {cs cs' : List Cell} {k k' : Int} {last last' : Option Pr} {left left' : List Pr} {found : List (List Pr)} {run run' : List Pr} {vs : List V}
theorem nd4 (h : [lc, a, d, e].Nodup) : ((lc ≠ a ∧ lc ≠ d ∧ lc ≠ e) ∧ (a ≠ d ∧ a ≠ e) ∧ d ≠ e) := by simpa using h
theorem MakerS.nl (M : MakerS K H p lo pr lc o size cs k last) {x : Addr} {ys : List V} (h : H x = some (.lst ys)) : x ≠ p ∧ x ≠ pr := by
  obtain ⟨vl, ⟨dx, e⟩, _⟩ := M.ob
  obtain ⟨dr, e2⟩ := M.room.ob
  exact ⟨ne_of h e (by intro z; cases z), ne_of h e2 (by intro z; cases z)⟩
theorem EX.on (L : EX K H0 H p lo pr lc a d e o size cs k last left found run) (s : Same H H') : EX K H0 H' p lo pr lc a d e o size cs k last left found run := ⟨L.same.trans s, L.fr, L.nd, L.mm.same s, L.la.same PairAt.st s, Runs.same L.ld s, L.le.same PairAt.st s⟩
theorem MakerS.put (M : MakerS K H p lo pr lc o size cs k last) (s0 : Same H0 H) {x : Addr} {ys vs : List V} (h : H x = some (.lst ys)) (n1 : x ≠ lc) (n2 : x ≠ lo) : MakerS K (upd H x (.lst vs)) p lo pr lc o size cs k last := by
  have t : TupLe H (upd H x (.lst vs)) := (TupLe.refl H).list h
  obtain ⟨vl, ob, hv⟩ := M.ob
  obtain ⟨xp, xr⟩ := M.nl h
  exact ⟨⟨vl, ob.keep fun u e => up e xp.symm, OptAt.st _ _ _ _ t hv⟩, ⟨M.room.ob.keep fun u e => up e xr.symm, M.room.ord.keep TurnAt.st t fun u e => up e n2.symm, M.room.cells.keep CellAt.st t fun u e => up e n1.symm, M.room.ne⟩, M.ne⟩
theorem EX.pe (L : EX K H0 H p lo pr lc a d e o size cs k last left found run) (n : e ≠ lo) (q : Paired (PairAt H) vs run') : EX K H0 (upd H e (.lst vs)) p lo pr lc a d e o size cs k last left found run' := by
  obtain ⟨⟨q1, q2, q3⟩, ⟨q4, q5⟩, q6⟩ := nd4 L.nd
  obtain ⟨ys, hx, _⟩ := L.le
  exact ⟨Rs.Same.mut L.same (L.fr _ (by simp)), L.fr, L.nd, L.mm.put L.same hx q3.symm n, L.la.off hx q5, Runs.put L.ld hx (by simp) q6, Lst.on hx q⟩
end
end Rs

namespace Rs
open PySem PySem.Spec PyProof.Rows L2
abbrev N_law_alike : List Str := ["_law_found", "_law_due_here", "_law_k"]
abbrev P_law_alike : List Str := ["_law_found", "_law_due_here"]
def okA : Nat → PyData → Prop
  | 0, _ => False
  | _ + 1, .none => True
  | _ + 1, .bool _ => True
  | _ + 1, .int _ => True
  | _ + 1, .str _ => True
  | n + 1, .list ds => ds.length ≤ 100000 ∧ ∀ d ∈ ds, okA n d
  | n + 1, .tuple ds => ds.length ≤ 100000 ∧ ∀ d ∈ ds, okA n d
  | _ + 1, _ => False
theorem okD.a : ∀ {n : Nat} {d : PyData}, okD n d → okA n d
  | 0, _, h => h.elim
  | n + 1, .none, _ => trivial
  | n + 1, .bool _, _ => trivial
  | n + 1, .int _, _ => trivial
  | n + 1, .str _, _ => trivial
  | n + 1, .list ds, h => ⟨h.1, fun d hd => okD.a (h.2 d hd)⟩
  | n + 1, .tuple ds, h => ⟨h.1, fun d hd => okD.a (h.2 d hd)⟩
theorem okA.up : ∀ {n : Nat} {d : PyData}, okA n d → okA (n + 1) d
  | 0, _, h => h.elim
  | n + 1, .none, _ => trivial
  | n + 1, .bool _, _ => trivial
  | n + 1, .int _, _ => trivial
  | n + 1, .str _, _ => trivial
  | n + 1, .list ds, h => ⟨h.1, fun d hd => okA.up (h.2 d hd)⟩
  | n + 1, .tuple ds, h => ⟨h.1, fun d hd => okA.up (h.2 d hd)⟩
theorem okA.ups {n : Nat} {d : PyData} (h : okA n d) : ∀ k, okA (n + k) d
  | 0 => h
  | k + 1 => okA.up (okA.ups h k)
theorem okA.to {n m : Nat} {d : PyData} (h : okA n d) (l : n ≤ m) : okA m d := by
  have := h.ups (m - n)
  rwa [show n + (m - n) = m by omega] at this
def spr_law_alike (K : PySem.W.Frag) (n : Nat) : Sp := fun vs H Q E => match vs with
  | [x, y] => ∃ d, okA n d ∧ Dp K H x d ∧ Dp K H y d ∧ Q (.bl true) H
  | _ => False
abbrev sp_law_alike (K : PySem.W.Frag) : Sp := spr_law_alike K 45
theorem len_law_alike (K : PySem.W.Frag) : ∀ d vs H Q E, spr_law_alike K d vs H Q E → vs.length = 2 := fun d vs H Q E h => by
  unfold spr_law_alike at h
  match vs, h with
  | [_, _], _ => rfl
theorem no_law_alike (K : PySem.W.Frag) : ∀ vs H Q E, ¬ spr_law_alike K 0 vs H Q E := fun vs H Q E h => by
  unfold spr_law_alike at h
  match vs, h with
  | [_, _], ⟨d, h, _⟩ => exact h
def t_law_alike (K : PySem.W.Frag) (sp : Sp) (E : XK) : TS := (tSeq (tIfS (tTest (tOpC rIsN (tVar 1) .non)) (tRet (tOpC rIsN (tVar 0) .non)) tNext)
  (tSeq (tIfS (tB (tIsi K "bool" (tVar 1))) (tRet (tAndV (tIsi K "bool" (tVar 0)) (tOp rEq (tVar 0) (tVar 1)))) tNext)
   (tSeq (tIfS (tB (tIsi K "int" (tVar 1))) (tRet (tAndV (tIsi K "int" (tVar 0)) (tAndV (tNotV (tIsi K "bool" (tVar 0))) (tOp rEq (tVar 0) (tVar 1))))) tNext)
    (tSeq (tIfS (tB (tIsi K "str" (tVar 1))) (tRet (tAndV (tIsi K "str" (tVar 0)) (tOp rEq (tVar 0) (tVar 1)))) tNext)
     (tSeq (tIfS (tOr (tTest (tOp rNe (tIsi K "tuple" (tVar 1)) (tIsi K "tuple" (tVar 0)))) (tTest (tOp rNe (tIsi K "list" (tVar 1)) (tIsi K "list" (tVar 0))))) (tRet (tC (.bl false))) tNext)
      (tSeq (tIfS (tTest (tOp rNe (tCB1 (xLen K) (tVar 0)) (tCB1 (xLen K) (tVar 1)))) (tRet (tC (.bl false))) tNext)
       (tSeq (tFor (iRng1 (tCons (tCB1 (xLen K) (tVar 1)) tNil)) (gName 2) 
          (tIfS (tNot (tB (tCall sp [] E (tCons (tOp (rIx K) (tVar 0) (tVar 2)) (tCons (tOp (rIx K) (tVar 1) (tVar 2)) tNil))))) (tRet (tC (.bl false))) tNext))
        (tRet (tC (.bl true))))))))))
theorem tyL {K : PySem.W.Frag} {H : Hp} {a : Addr} {xs : List V} (h : SqL K H a xs) : TyX K H (.ref a) (.type "list") := by
  rcases h with (h | ⟨o, h⟩) | ⟨o, its, n, h, c, _⟩
  · exact .base (.lst h)
  · exact .base (.frz h)
  · exact .kList h c
theorem tyT {K : PySem.W.Frag} {H : Hp} {a : Addr} {xs : List V} (h : SqT K H a xs) : TyX K H (.ref a) (.type "tuple") := by
  rcases h with (h | ⟨o, h⟩) | ⟨o, its, n, h, c, _⟩
  · exact .base (.tup h)
  · exact .fTuple h
  · exact .kTuple h c
theorem dpAll_len {K : PySem.W.Frag} {H : Hp} : ∀ {vs : List V} {ds : List PyData}, DpAll K H vs ds → vs.length = ds.length
  | _, _, .nil => rfl
  | _, _, .cons _ t => by rw [List.length_cons, List.length_cons, dpAll_len t]
theorem dpAll_get {K : PySem.W.Frag} {H : Hp} : ∀ {vs : List V} {ds : List PyData}, DpAll K H vs ds → ∀ {i : Nat} {d : PyData}, ds[i]? = some d → ∃ v, vs[i]? = some v ∧ Dp K H v d
  | _, _, .nil, _, _, e => by simp at e
  | _, _, .cons h t, 0, d, e => by simp at e; subst e; exact ⟨_, rfl, h⟩
  | _, _, .cons h t, i + 1, d, e => by simpa using dpAll_get t (i := i) (by simpa using e)
theorem pure_law_alike {K : PySem.W.Frag} (d : Nat) : ∀ vs H Q E, spr_law_alike K (d + 1) vs H Q E → t_law_alike K (spr_law_alike K d) E { nx := fun _ H' => Q .non H', rt := Q } (start N_law_alike vs) H := by
  intro vs H Q E h
  unfold spr_law_alike at h
  match vs, h with
  | [x, y], ⟨z, ok, hx, hy, k⟩ =>
    -- two rows of items
    have tail : ∀ (a b : Addr) (xs ys : List V) (ds : List PyData), (SqL K H a xs ∨ SqT K H a xs) → (SqL K H b ys ∨ SqT K H b ys) → DpAll K H xs ds → DpAll K H ys ds → ds.length ≤ 100000 → (∀ e ∈ ds, okA d e) →
        ((tSeq (tIfS (tTest (tOp rNe (tCB1 (xLen K) (tVar 0)) (tCB1 (xLen K) (tVar 1)))) (tRet (tC (.bl false))) tNext)
          (tSeq (tFor (iRng1 (tCons (tCB1 (xLen K) (tVar 1)) tNil)) (gName 2) (tIfS (tNot (tB (tCall (spr_law_alike K d) [] E (tCons (tOp (rIx K) (tVar 0) (tVar 2)) (tCons (tOp (rIx K) (tVar 1) (tVar 2)) tNil))))) (tRet (tC (.bl false))) tNext))
            (tRet (tC (.bl true))))) : TS) { nx := fun _ H' => Q .non H', rt := Q } [some (.ref a), some (.ref b), none] H := by
      intro a b xs ys ds ha hb dx dy hl hok
      have lx := dpAll_len dx
      have ly := dpAll_len dy
      refine ⟨_, rfl, a, xs, rfl, ha, _, rfl, b, ys, rfl, hb, rfl, _, rfl, ?_⟩
      have e : (!decide (V.int (xs.length : Int) = V.int (ys.length : Int))) = false := by rw [lx, ly]; simp
      rw [e]
      refine ⟨_, rfl, b, ys, rfl, hb, _, rfl, by omega, by omega, ?_⟩
      refine for_range (lo := 0) (n := (ys.length : Int).toNat) (fun i σ H' => H' = H ∧ ∃ x2, σ = [some (.ref a), some (.ref b), x2]) ⟨rfl, none, rfl⟩ ?_ ?_
      · rintro i σ H' hi ⟨rfl, x2, rfl⟩
        have hid : i < ds.length := by omega
        have hd := List.getElem?_eq_getElem hid
        obtain ⟨vx, gx, px⟩ := dpAll_get dx hd
        obtain ⟨vy, gy, py⟩ := dpAll_get dy hd
        have ix : ∀ {a : Addr} {xs : List V} {v : V} {Q : VK}, (SqL K H' a xs ∨ SqT K H' a xs) → xs[i]? = some v → Q v H' → rIx K (.ref a) (.int (0 + (i : Int))) H' Q := fun h g q => by
          rcases h with h | h
          · exact .inl ⟨_, _, _, _, rfl, rfl, h, at_of (j := i) (by omega) g, q⟩
          · exact .inr (.inl ⟨_, _, _, _, rfl, rfl, h, at_of (j := i) (by omega) g, q⟩)
        refine ⟨_, rfl, _, rfl, ix ha gx ⟨_, rfl, _, rfl, ix hb gy ?_⟩⟩
        exact ⟨ds[i], hok _ (List.getElem_mem hid), px, py, _, rfl, rfl, _, rfl⟩
      · rintro σ H' ⟨rfl, x2, rfl⟩
        exact k
    cases hx with
    | non =>
      cases hy
      exact ⟨_, rfl, rfl, _, rfl, _, rfl, rfl, k⟩
    | bl b =>
      cases hy
      refine ⟨_, rfl, rfl, _, rfl, _, rfl, isi_go (t := "bool") (b := true) (.base (.bl b)) (by decide +kernel) ⟨_, rfl, _, rfl, isi_go (t := "bool") (b := true) (.base (.bl b)) (by decide +kernel) ⟨_, rfl, _, rfl, _, rfl, rfl, ?_⟩⟩⟩
      rw [decide_eq_true rfl]
      exact k
    | int b =>
      cases hy
      refine ⟨_, rfl, rfl, _, rfl, _, rfl, isi_go (t := "int") (b := false) (.base (.int b)) (by decide +kernel) ⟨_, rfl, _, rfl, isi_go (t := "int") (b := true) (.base (.int b)) (by decide +kernel) ⟨_, rfl, _, rfl, isi_go (t := "int") (b := true) (.base (.int b)) (by decide +kernel) ⟨_, rfl, _, rfl, isi_go (t := "int") (b := false) (.base (.int b)) (by decide +kernel) ⟨_, rfl, _, rfl, _, rfl, _, rfl, rfl, ?_⟩⟩⟩⟩⟩
      rw [decide_eq_true rfl]
      exact k
    | str b =>
      cases hy
      refine ⟨_, rfl, rfl, _, rfl, _, rfl, isi_go (t := "str") (b := false) (.base (.str b)) (by decide +kernel) ⟨_, rfl, _, rfl, isi_go (t := "str") (b := false) (.base (.str b)) (by decide +kernel) ⟨_, rfl, _, rfl, isi_go (t := "str") (b := true) (.base (.str b)) (by decide +kernel) ⟨_, rfl, _, rfl, isi_go (t := "str") (b := true) (.base (.str b)) (by decide +kernel) ⟨_, rfl, _, rfl, _, rfl, rfl, ?_⟩⟩⟩⟩⟩
      rw [decide_eq_true rfl]
      exact k
    | @lst a xs ds sx dx =>
      cases hy with
      | @lst b ys _ sy dy =>
        obtain ⟨hl, hok⟩ : ds.length ≤ 100000 ∧ ∀ e ∈ ds, okA d e := ok
        refine ⟨_, rfl, rfl, _, rfl, _, rfl, isi_go (t := "list") (b := false) (tyL sy) (by decide +kernel) ⟨_, rfl, _, rfl, isi_go (t := "list") (b := false) (tyL sy) (by decide +kernel) ⟨_, rfl, _, rfl, isi_go (t := "list") (b := false) (tyL sy) (by decide +kernel) ⟨_, rfl, ?_⟩⟩⟩⟩
        refine ⟨_, rfl, isi_go (t := "list") (b := false) (tyL sy) (by decide +kernel) ⟨_, rfl, isi_go (t := "list") (b := false) (tyL sx) (by decide +kernel) ⟨rfl, _, rfl, _, rfl, isi_go (t := "list") (b := true) (tyL sy) (by decide +kernel) ⟨_, rfl, isi_go (t := "list") (b := true) (tyL sx) (by decide +kernel) ⟨rfl, _, rfl, ?_⟩⟩⟩⟩⟩
        exact tail a b xs ys ds (.inl sx) (.inl sy) dx dy hl hok
    | @tup a xs ds sx dx =>
      cases hy with
      | @tup b ys _ sy dy =>
        obtain ⟨hl, hok⟩ : ds.length ≤ 100000 ∧ ∀ e ∈ ds, okA d e := ok
        refine ⟨_, rfl, rfl, _, rfl, _, rfl, isi_go (t := "tuple") (b := false) (tyT sy) (by decide +kernel) ⟨_, rfl, _, rfl, isi_go (t := "tuple") (b := false) (tyT sy) (by decide +kernel) ⟨_, rfl, _, rfl, isi_go (t := "tuple") (b := false) (tyT sy) (by decide +kernel) ⟨_, rfl, ?_⟩⟩⟩⟩
        refine ⟨_, rfl, isi_go (t := "tuple") (b := true) (tyT sy) (by decide +kernel) ⟨_, rfl, isi_go (t := "tuple") (b := true) (tyT sx) (by decide +kernel) ⟨rfl, _, rfl, _, rfl, isi_go (t := "tuple") (b := false) (tyT sy) (by decide +kernel) ⟨_, rfl, isi_go (t := "tuple") (b := false) (tyT sx) (by decide +kernel) ⟨rfl, _, rfl, ?_⟩⟩⟩⟩⟩
        exact tail a b xs ys ds (.inr sx) (.inr sy) dx dy hl hok
end Rs

namespace Rs
open PySem PySem.Spec PyProof.Rows L2
theorem Box.fresh {H : Hp} {a l x : Addr} (B : Box H a l) (h : H x = none) : x ∉ [a, l] := by
  obtain ⟨ns, z, e1, e2, _⟩ := B.ex
  exact nn (ne_of_none e1 h).symm (ne_of_none e2 h).symm
theorem GoodOrd.len {ks : List Str} {o : Ord} (g : GoodOrd ks o) (h : ks.length ≤ 4) : o.length ≤ 4 := by
  have nd := g.nd
  have sub : (o.map (·.1)) ⊆ List.range ks.length := fun x hx => by
    obtain ⟨t, ht, rfl⟩ := List.mem_map.mp hx
    exact List.mem_range.mpr (g.col t ht)
  have := nd.length_le_of_subset sub
  rw [List.length_map, List.length_range] at this
  omega
theorem paired_mem {α β : Type} {F : α → β → Prop} : ∀ {l : List α} {m : List β}, Paired F l m → ∀ {a : α}, a ∈ l → ∃ b ∈ m, F a b
  | _, _, .nil, _, h => by simp at h
  | _, _, .cons q t, a, h => by
    rcases List.mem_cons.mp h with e | e
    · subst e; exact ⟨_, List.mem_cons_self .., q⟩
    · obtain ⟨b, hb, f⟩ := paired_mem t e
      exact ⟨b, List.mem_cons_of_mem _ hb, f⟩
end Rs

namespace Rs
open PySem PySem.Spec PyProof.Rows L2
section
variable {X : Cx} {W : WX} {E : XK} {k : Nat} {ps : List Str} {sp : Sp} {x m : Str} {e : Expr} {es : List Expr} {t : TA} {p p2 pos pos2 : Pos} {j : Nat}
theorem ps_raiseE (c : PySem.W.excIn X.K (He.ga X.K x) He.veBase "ValueError.__new__" = true ∧ PySem.W.keepIn X.K (.ref (He.ga X.K x)) = true ∧ PySem.W.subIn X.K (.ref (He.ga X.K x)) (.type "BaseException") = some true ∧ PySem.W.typeIn X.K (.ref (He.ga X.K x)) = some (.type "type"))
    (gC : X.mg x = some (.ref (He.ga X.K x))) (hg : Gl X x) (hc : X.calm = true) (tk : Takes X (fun cls d _ H => E cls d H)) (hdb : (x == ("__debug__" : Str)) = false := by decide) :
    PS X (.Raise (some (.Call (.Name x p) [.Constant (.str m) j p2] [] pos)) none pos2) (tRaise E (.ref (He.ga X.K x))) :=
  ps_raise hc tk (pmk_own PySem.F.excBase_ValueError c.1 gC c.2.1 (raises_own c.2.2.1 c.2.2.2) hg hdb)
end
section
variable {X : Cx} {E : XK} {x : Str} {body suite : List Stmt} {b₀ : Stmt} {np pos pos' : Pos} {tb : WX → TS} {ts : TS}
end
end Rs

namespace Rs
open PySem PySem.Spec PyProof.Rows L2 LamX
section
variable {P : Program} {w : World} {K : PySem.W.Frag} {mg : Str → Option Value} {base : Heap}
abbrev cxP (P : Program) (w : World) (K : PySem.W.Frag) (mg : Str → Option Value) (base : Heap) (N : List Str) (ql : Str) (sc : Scope) (g : Addr) (cd : Value) (A : Around) (outer : List Env) (z : Shared) (H : Hp) (a : Addr) (oe : Obj) : Cx :=
  L2H.cxH CX0 P w K mg base N ql sc g cd A outer z H E0 (a, oe)
theorem warm_call {k : Nat} {g : Addr} {nm ql : Str} {pr : Arguments} {bd : List Stmt} {sc : Scope} {dV kV doc pm cdv ct oc : Value} {an od : Option Addr} {osl : Array (Option Value)} {N : List Str} {y : Str} {A : Around} {outer : List Env} {z : Shared} {H : Hp} {Q : VK} {a : Addr} {oe : Obj} {t : TS}
    (lk : K.lookup g = some ⟨oc, od, .func (PySem.W.fnOf nm ql pr bd sc dV kV doc pm an cdv ct), osl⟩) (hcd : PySem.W.codeIn K cdv ql = true) (S : FnScope N [y] sc) (hr : L2H.RoomH (k + 1) A) (e0 : Env0 P w K mg base A outer z H) (hpin : L2H.PinOk outer H z (a, oe))
    (hb : BindsTo z (PySem.W.fnOf nm ql pr bd sc dV kV doc pm an cdv ct) ⟨[.ref a], []⟩ [(y, .ref a)]) (hbody : PSs (cxP P w K mg base N ql sc g cdv A outer z H a oe) bd t) (hq : t { nx := fun _ H' => Q .non H', rt := Q } (L2.start N [.ref a]) H) :
    codeAny (model P w) A (.call (.ref g) ⟨[.ref a], []⟩) (CR CX0 outer P w H z Q E0) z := by
  have KZ : K.In z.heap := e0.mod.kin.keeps fun b o e => (e0.bs b o e).1
  have lm : z.heap.NoLimit := e0.mod.nolimit.keeps fun b o e => (e0.bs b o e).1
  have hk : ∀ n ∈ [(y, Value.ref a)], sc.names.lookup n.1 = some .local ∨ (sc.names.lookup n.1 = some .cell ∧ ((cellsFrom (z.heap.objs.size + 1) sc.names []).lookup n.1).isSome = true) := fun n hn => by
    have en : n = (y, Value.ref a) := by simpa using hn
    rw [en]
    rcases S.par y (by simp) with q | q
    · exact .inl q
    · exact .inr ⟨q, PySem.W.cellsFrom_some _ _ _ (.inl q)⟩
  refine codeAny_call_function hr.depth (KZ _ _ lk) rfl S.co S.gen rfl (PySem.W.codeRec_of KZ hcd) (hb _ _ _ _ (wpAny_newFunctionEnv_cells S.kind hk fun env he z1 x => ?_))
  subst he
  refine ⟨lm.keeps x.toInCall.keep, codeAny_func (wpAny_mono (hbody.run [] z1 (L2.start N [.ref a]) H _ (L2H.inv_startH (us := [.ref a]) (vs := [.ref a]) S hpin e0 rfl (.cons rfl .nil) x) hq) (fun fl z' hs => ?_) fun e z' hs => hs)⟩
  cases fl with
  | ret u =>
    obtain ⟨v, σ', H', J, rv, q⟩ := hs
    exact ⟨v, H', J.os, J.bare, J.base, J.hok, rv, q⟩
  | next =>
    obtain ⟨σ', H', J, q⟩ := hs
    exact ⟨.non, H', J.os, J.bare, J.base, J.hok, rfl, q⟩
  | brk => exact hs.elim fun _ h => h.elim fun _ h => h.2.elim
  | cont => exact hs.elim fun _ h => h.elim fun _ h => h.2.elim
end
section
variable {prog : Program} {w : World} {A : Around} {E : Value → Shared → Prop} {z : Shared} {K : PySem.W.Frag} {p D : Addr} {op : Obj} {od : Option Obj}
open PySem.W PySem.Calls in
theorem found_class (C : ExcC K D) : findObj K D od "__class__" = some (.bind (.builtin "getset_descriptor.__get__") (.builtin "object.__class__")) := by
  obtain ⟨cd, hc, _⟩ := any_some C.hd
  have e1 := C.ha
  have e2 := C.hn
  have e3 := C.ht
  unfold findObj
  rw [hc, Option.bind_some, e1, Option.bind_some]
  simp [e2, e3]
open PySem.W PySem.Calls in
theorem ask_class {Q : Option Value → Shared → Prop} (C : ExcC K D) (KI : K.In z.heap) (J : InstAt z.heap p op D od) (q : Q (some (.ref D)) { z with toks := z.toks + 1 }) : wpAny (model prog w) A (getAttr? (.ref p) "__class__") Q E z := by
  have fo := found_class (od := od) C
  obtain ⟨hp, gs, dr, tk, ou⟩ := z
  have a0 := J.type (M := model prog w)
  have a1 := looks_findIn (M := model prog w) KI C.hg
  have a2 := looks_findIn (M := model prog w) KI C.hk
  have a3 := looks_find (M := model prog w) KI J fo
  have up : Looks (model prog w) hp (isInstance (.ref p) (.type "BaseException")) true := a0.andThen (looks_subIn KI C.hs)
  have no : (Value.builtin "BaseException.__getattribute__" == Value.builtin "object.__getattribute__") = false := by decide +kernel
  have no2 : (onTheHeap (Value.ref D) && Value.builtin "BaseException.__getattribute__" == Value.builtin "object.__getattribute__") = false := by rw [no]; rfl
  unfold getAttr?
  unfold getAttrBy? getAttrBy
  refine wpAny_bind (wpAny_mkText (wpAny_bind (wpAny_attempt (wpAny_holding (wpAny_bind (a0.at (wpAny_bind (a1.at ?_))))))))
  show wpAny _ _ (if (onTheHeap (Value.ref D) && Value.builtin "BaseException.__getattribute__" == Value.builtin "object.__getattribute__") = true then _ else _) _ _ _
  rw [no2, if_neg Bool.false_ne_true]
  unfold getAttrByItsOwn
  unfold hookBefore
  refine wpAny_bind ?_
  rw [if_pos (show onTheHeap (.ref D) = true from rfl)]
  refine a2.at (wpAny_bind (wpAny_attempt (wpAny_holding ?_)))
  unfold callGetattribute
  rw [show (false && onTheHeap (Value.builtin "BaseException.__getattribute__")) = false from rfl, if_neg Bool.false_ne_true]
  unfold boundAndCalled
  rw [PySem.F.excAttr_ValueError.ga.bind (.ref p)]
  refine wpAny_bind (wpAny_pure (wpAny_call (codeAny_call_builtin PySem.F.excAttr_ValueError.ga.plain PySem.F.entry_bexc_ga ?_)))
  refine @check_slot (model prog w) _ _ ⟨hp, gs, dr, tk + 1, ou⟩ "BaseException.__getattribute__" "BaseException" "__getattribute__" (.ref p) [.str "__class__" tk] [] _ (by decide +kernel) (by decide +kernel) up (PySem.F.args_bexc_ga (.ref p) (.str "__class__" tk)) ?_
  delta Builtin.«object.__getattribute__»
  refine wpAny_bind (wpAny_of_eq (a := ((Value.ref p : Value), [Value.str "__class__" tk])) (by first | rfl | (simp only [slotArgs]; rfl)) ?_)
  refine wpAny_bind (wpAny_pure (wpAny_bind (a0.at (wpAny_bind (a3.at ?_)))))
  refine wpAny_bind (wpAny_holding (wpAny_call (class_get (s := ⟨hp, gs, dr, tk + 1, ou⟩) (ox := op) (od := od) KI J C.hm ?_)))
  refine wpAny_pure ?_
  refine (show wpAny _ _ (handedOut (Value.ref D)) _ _ _ from ?_)
  rw [handedOut_of (v := Value.ref D) rfl]
  first
    | exact wpAny_pure (wpAny_pure q)
    | exact wpAny_pure q
    | exact wpAny_pure (wpAny_bind (wpAny_pure (wpAny_pure q)))
open PySem.W PySem.Calls in
theorem kit_err (C : ExcC K D) : KitX K (.ref p) (.ref D) (fun h => InstAt h p op D od) := by
  have base := handS_kitx_exc (x := p) (ox := op) C.hg C.hk C.hs C.hd C.ha C.hn C.ht C.hm
  exact ⟨fun _ _ _ J => J.type, fun M h KI J => (by
    obtain ⟨cd, hc, _⟩ := any_some C.hd
    unfold clsIn at hc
    split at hc
    · rename_i ho
      intro A' Q' E' z' k q
      unfold isType loadHead
      exact wpAny_bind (wpAny_loadPart (k _ _ (KI _ _ ho)) (wpAny_pure q))
    · cases hc), base.ne, fun KI J q => ask_class C KI J q⟩
end
def DictOk (d : Option Addr) (H : Hp) : Prop := ∀ dd, d = some dd → ∃ fs, H dd = some (.xd fs)
def rIsX (K : PySem.W.Frag) (D a : Addr) (d : Option Addr) : List V → Hp → VK → Prop := fun xs H Q => ∃ (c : V) (cv : Value) (b : Bool), xs = [.ref a, c] ∧ (∀ u, RelV c u → u = cv) ∧ PySem.W.kitOne K (.ref D) cv = some b ∧ DictOk d H ∧ Q (.bl b) H
section
variable {X : Cx} {a D : Addr} {oe : Obj} {pn : List (Addr × Obj)}
theorem pe_gref {x : Str} {p : Pos} (hg : Gl X x) (hm : X.mg x = some (.ref (He.ga X.K x))) (hd : (x == ("__debug__" : Str)) = false := by decide) : PE X (.Name x p) (tC (.ref (He.ga X.K x))) :=
  ⟨fun _ _ _ H _ I h => ld_glob I hg hm ⟨.ref _, H, I, rfl, h⟩ hd⟩
theorem call_isP {d : Option Addr} (C : ExcC X.K D) (hz : Zc (.ref D) d oe) (hf : ∃ vs, oe.data = .fields vs) (hp : (a, oe) ∈ X.pn) : CallR X (.builtin "isinstance") (rIsX X.K D a d) := by
  intro pins z σ H xs us Q I r h
  obtain ⟨c, cv, b, rfl, hcv, e, hd, q⟩ := h
  obtain ⟨u1, ur, rfl, rx, rr⟩ : ∃ u1 ur, us = u1 :: ur ∧ RelV (.ref a) u1 ∧ Vals [c] ur := by
    cases r with
    | cons rx rr => exact ⟨_, _, rfl, rx, rr⟩
  obtain ⟨u2, rfl, rt⟩ : ∃ u2, ur = [u2] ∧ RelV c u2 := by
    cases rr with
    | cons rt r0 =>
      cases r0
      exact ⟨_, rfl, rt⟩
  obtain rfl : u1 = Value.ref a := rx
  obtain rfl := hcv _ rt
  have hget := (I.pin (a, oe) (List.mem_append_left _ hp)).1
  obtain ⟨vs, hv⟩ := hf
  have nc : PySem.W.notCls oe := by unfold PySem.W.notCls; rw [hv] <;> rfl
  obtain ⟨od, J⟩ : ∃ od, PySem.W.InstAt z.heap a oe D od := by
    cases ed : d with
    | none => exact ⟨none, hget, hz.1, nc, by rw [hz.2, ed]; trivial⟩
    | some dd =>
      obtain ⟨fs, hH⟩ := hd dd ed
      have hx : ObjOk X.prog X.w H z.heap dd (.xd fs) := I.hok dd _ hH
      obtain ⟨mA, hns, _⟩ := hx
      obtain ⟨od, ho, _⟩ := lookIn_ns hns
      exact ⟨some od, hget, hz.1, nc, by rw [hz.2, ed]; exact ho⟩
  exact PySem.W.kia_one (kit_err C) I.kIn J e (fun y => nomatch y) fun tk => ⟨.bl b, H, I.kept (t' := tk) fun _ _ y => y, rfl, q⟩
theorem pe_warm {k : Nat} {g : Addr} {x y : Str} {pr : Arguments} {bd : List Stmt} {sc : Scope} {dV kV doc pm cdv ct oc : Value} {an od : Option Addr} {osl : Array (Option Value)} {N : List Str} {e : Expr} {te : TE} {t : TS} {p pos : Pos}
    (lk : X.K.lookup g = some ⟨oc, od, .func (PySem.W.fnOf x x pr bd sc dV kV doc pm an cdv ct), osl⟩) (hcd : PySem.W.codeIn X.K cdv x = true) (S : FnScope N [y] sc) (hr : L2H.RoomH (k + 1) X.A) (hp : (a, oe) ∈ X.pn)
    (hb : L2.Binds X.K (PySem.W.fnOf x x pr bd sc dV kV doc pm an cdv ct) [y] []) (hg : Gl X x) (hm : X.mg x = some (.ref g)) (hk : PySem.W.keepIn X.K (.ref g) = true)
    (hbody : ∀ (z : Shared) (H : Hp), PSs (cxP X.prog X.w X.K X.mg X.base N x sc g cdv X.A X.stack z H a oe) bd t) (he : PE X e te) (hdb : (x == ("__debug__" : Str)) = false := by decide)
    (hst : starEach [e] X.env = [(false, eval e X.env)] := by rfl) (hpl : (backTo pos (starEach [] X.env)).any (·.1) = false := by rfl) :
    PE X (.Call (.Name x p) [e] [] pos) (fun σ H Q => te σ H fun v H1 => v = .ref a ∧ t { nx := fun _ H' => Q .non H', rt := Q } (L2.start N [.ref a]) H1) := by
  refine ⟨fun pins z σ H Q I h => wpAny_Call_Name_kw (ld_glob I hg hm ?_ hdb)⟩
  let R : List V → Hp → Prop := fun vs H1 => match vs with
    | [v] => v = .ref a ∧ t { nx := fun _ H' => Q .non H', rt := Q } (L2.start N [.ref a]) H1
    | _ => False
  have ha : PA X [e] (tCons te tNil) := pa_cons he pa_nil hst
  refine PySem.W.callWith_K (h₀ := X.base) I.ok.mod.kin hk (thn (ha.run pos pins z σ H R I h) fun us z1 hh => ?_) hst hpl
  obtain ⟨vs, H1, I1, r1, q1⟩ := hh
  cases r1 with
  | nil => exact q1.elim
  | cons rv rr =>
    cases rr with
    | cons _ _ => exact q1.elim
    | nil =>
      obtain ⟨ev, ht⟩ := q1
      subst ev
      obtain rfl := rv
      have pin := I1.pin (a, oe) (List.mem_append_left _ hp)
      have hpin : L2H.PinOk X.stack H1 z1 (a, oe) := ⟨pin.1, pin.2.1, fun hm' => (List.mem_cons.mp (I1.stkSub a hm')).elim pin.2.2.1 pin.2.2.2.1, pin.2.2.2.2⟩
      refine ⟨I1.kIn, wpAny_call (codeAny_mono (warm_call lk hcd S hr I1.env0 hpin (hb z1 [.ref a] I1.kIn rfl) (hbody z1 H1) ht) fun r z2 hq => ?_)⟩
      cases r with
      | error err => exact False.elim hq
      | ok fl =>
        cases fl with
        | ret u => exact I1.after hq
        | next => exact False.elim hq
        | brk => exact False.elim hq
        | cont => exact False.elim hq
end
structure ErrIs (K : PySem.W.Frag) (x : Str) : Prop where
  mem : x ∈ errNames
  c : ExcC K (He.ga K x)
  k : ∀ y ∈ errNames, PySem.W.kitOne K (.ref (He.ga K x)) (.ref (He.ga K y)) = some (decide (x = y))
  v : PySem.W.kitOne K (.ref (He.ga K x)) (.type "ValueError") = some true
  s : PySem.W.exmOne K (.ref (He.ga K x)) (.ref (He.ga K "SortError")) = some true
theorem excCB_ok {K : PySem.W.Frag} {D : Addr} (h : excCB K D = true) : ExcC K D := by
  unfold excCB at h
  simp only [Bool.and_eq_true, decide_eq_true_eq] at h
  obtain ⟨h1, h2, h3, h4, h5, h6, h7, h8⟩ := h
  exact ⟨h1, h2, h3, h4, h5, h6, h7, h8⟩
theorem errB_ok {K : PySem.W.Frag} {x : Str} (h : errB x K = true) : ErrIs K x := by
  unfold errB at h
  simp only [Bool.and_eq_true, decide_eq_true_eq, List.all_eq_true] at h
  obtain ⟨h1, h2, h3, h4, h5⟩ := h
  exact ⟨h1, excCB_ok h2, h3, h4, h5⟩
def ErrNo (K : PySem.W.Frag) (x : Str) (d : Option Addr) (H : Hp) (v : V) : Prop :=
  if x = "BadRuns" ∨ x = "BadRows" ∨ x = "BadText" then ∃ dd fs, XfC K (He.ga K x) ∧ PySem.W.findIn K (.ref (He.ga K x)) (if x = "BadRuns" then ("number" : Str) else "place") = some none ∧ d = some dd ∧ H dd = some (.xd fs) ∧ fs.lookup (if x = "BadRuns" then ("number" : Str) else "place") = some v
  else d = none ∧ v = .int 0
def rErr (K : PySem.W.Frag) (cls : Value) (d : Option Addr) (H : Hp) (Q : VK) : Prop := ∃ x v, cls = .ref (He.ga K x) ∧ ErrIs K x ∧ ErrNo K x d H v ∧
  ∀ p H', H p = none → (∀ b o, H b = some o → H' b = some o) → H' p = some (.tup [.str x, v]) → Q (.ref p) H'
def tWarm (K : PySem.W.Frag) (i : Nat) (a : Addr) (cls : Value) (d : Option Addr) (N : List Str) (t : Addr → Addr → Option Addr → TS) : TE := fun σ H Q => σ[i]? = some (some (.ref a)) ∧ ∃ D, cls = .ref D ∧ ExcC K D ∧ t D a d { nx := fun _ H' => Q .non H', rt := Q } (L2.start N [.ref a]) H
def tErrF (K : PySem.W.Frag) (i : Nat) (a : Addr) (cls : Value) (d : Option Addr) (n : Str) : TE := fun σ H Q => σ[i]? = some (some (.ref a)) ∧ ∃ C dd fs v, cls = .ref C ∧ XfC K C ∧ PySem.W.findIn K (.ref C) n = some none ∧ d = some dd ∧ H dd = some (.xd fs) ∧ fs.lookup n = some v ∧ Q v H
structure WarmFn (P : Program) (w : World) (K : PySem.W.Frag) (mg : Str → Option Value) (base : Heap) (x : Str) (N : List Str) (t : Addr → Addr → Option Addr → TS) : Prop where
  ex : ∃ (y : Str) (g : Addr) (pr : Arguments) (bd : List Stmt) (sc : Scope) (dV kV doc pm cdv ct oc : Value) (an od : Option Addr) (osl : Array (Option Value)),
    K.lookup g = some ⟨oc, od, .func (PySem.W.fnOf x x pr bd sc dV kV doc pm an cdv ct), osl⟩ ∧ PySem.W.codeIn K cdv x = true ∧ FnScope N [y] sc ∧ L2.Binds K (PySem.W.fnOf x x pr bd sc dV kV doc pm an cdv ct) [y] [] ∧ mg x = some (.ref g) ∧ PySem.W.keepIn K (.ref g) = true ∧
    ∀ (D a : Addr) (d : Option Addr) (oe : Obj), ExcC K D → Zc (.ref D) d oe → (∃ vs, oe.data = .fields vs) → ∀ (A : Around) (outer : List Env) (z : Shared) (H : Hp), PSs (cxP P w K mg base N x sc g cdv A outer z H a oe) bd (t D a d)
section
variable {X : Cx} {a : Addr} {cls : Value} {d : Option Addr} {oe : Obj} {pn : List (Addr × Obj)} {i : Nat} {n : Str} {p p2 pos : Pos}
theorem pe_warmV {k : Nat} {x : Str} {N : List Str} {t : Addr → Addr → Option Addr → TS} (F : WarmFn X.prog X.w X.K X.mg X.base x N t) (hr : L2H.RoomH (k + 1) X.A) (hp : (a, oe) ∈ X.pn) (hz : Zc cls d oe) (hf : ∃ vs, oe.data = .fields vs) (hg : Gl X x) (he : PE X (.Name n p2) (tVar i))
    (hdb : (x == ("__debug__" : Str)) = false := by decide) (hst : starEach [.Name n p2] X.env = [(false, eval (.Name n p2) X.env)] := by rfl) (hpl : (backTo pos (starEach [] X.env)).any (·.1) = false := by rfl) :
    PE X (.Call (.Name x p) [.Name n p2] [] pos) (tWarm X.K i a cls d N t) := by
  refine ⟨fun pins z σ H Q I h => ?_⟩
  obtain ⟨h1, D, rfl, C, ht⟩ := h
  obtain ⟨y, g, pr, bd, sc, dV, kV, doc, pm, cdv, ct, oc, an, od, osl, lk, hcd, S, hb, hm, hk, hbody⟩ := F.ex
  exact (pe_warm (t := t D a d) lk hcd S hr hp hb hg hm hk (fun z H => hbody D a d oe C hz hf _ _ z H) he hdb hst hpl).run pins z σ H Q I ⟨_, h1, rfl, ht⟩
theorem pe_errF (hz : Zc cls d oe) (hf : ∃ vs, oe.data = .fields vs) (he : PE (X.suite a ((a, oe) :: pn)) (.Name n p2) (tVar i)) {f : Str} (hb : attributeBase (.Name n p2) f X.env (eval (.Name n p2) X.env) = eval (.Name n p2) X.env := by rfl) :
    PE (X.suite a ((a, oe) :: pn)) (.Attribute (.Name n p2) f pos) (tErrF X.K i a cls d f) := by
  refine ⟨fun pins z σ H Q I h => ?_⟩
  obtain ⟨h1, C, dd, fs, v, rfl, hx, hn, hd, hH, hl, q⟩ := h
  exact (pe_xf hx hn hz hf he hb).run pins z σ H Q I ⟨_, h1, rfl, rfl, dd, fs, v, hd, hH, hl, q⟩
theorem pss_len {b : List Stmt} {t : TS} (h : PSs X b t) : PSs X b (fun D σ H => σ.length = X.N.length → t D σ H) := ⟨fun pins s σ H D I hh => h.run pins s σ H D I (hh I.len)⟩
end
def TTold (K : PySem.W.Frag) : (XK → Hp → VK → Prop) → Hp → VK → Prop := fun tl H Q => tl (fun cls d H' => rErr K cls d H' Q) H Q
theorem told_does {X : Cx} {Ng : List Str} {x y e n q : Str} {sg : Scope} {g : Addr} {cdg : Value} {b₀ : Stmt} {suite : List Stmt} {ts : Addr → Value → Option Addr → TS} {p1 p2 p3 p4 p7 p8 : Pos} (hge : sg.names.lookup e = some .globalImplicit) (hme : X.mg e = some (.ref (He.ga X.K "SortError"))) (hde : (e == ("__debug__" : Str)) = false)
    (nd : Ng.Nodup) (hi : Ng[1]? = some n) (hln : sg.names.lookup n = some .local) (h0 : ∀ f : Addr, (L2.start Ng [V.ref f])[0]? = some (some (V.ref f)))
    (hsu : ∀ (s : Shared) (H : Hp) (a : Addr) (oe : Obj) (cls : Value) (d : Option Addr) (pn : List (Addr × Obj)), Zc cls d oe → (∃ vs, oe.data = .fields vs) → PSs ((cxOf C8.CX0 X.prog X.w X.K X.mg X.base Ng x sg g cdg X.A X.stack s H C8.E0).nox.suite a ((a, oe) :: pn)) (b₀ :: suite) (ts a cls d))
    (hp : ∀ (a : Addr) (cls : Value) (d : Option Addr) (H : Hp) (Q : VK) (D : Ends) (σ : L2.St), rErr X.K cls d H Q → D.rt = Q → σ.length = Ng.length → ts a cls d D (σ.set 1 (some (.ref a))) H) :
    GivesTo X Ng x sg g cdg [.Try [.Return (some (.Call (.Name y p1) [] [] p2)) p3] [.ExceptHandler (some (.Name e p4)) (some n) (b₀ :: suite) p7] [] [] p8] y q (TTold X.K) := by
  intro f c' s H Q tl act hc h
  have hgl : Gl (cxOf C8.CX0 X.prog X.w X.K X.mg X.base Ng x sg g cdg X.A X.stack s H C8.E0).nox e := hge
  refine ⟨_, pss_one (ps_try_as (X := (cxOf C8.CX0 X.prog X.w X.K X.mg X.base Ng x sg g cdg X.A X.stack s H C8.E0).nox) (c := .ref (He.ga X.K "SortError")) (i := 1)
      (ts := fun a cls d D σ H => σ.length = Ng.length → ts a cls d D σ H)
      (tb := fun W D σ H => ∃ Ech : XK, (∀ cls d σ' H', Ech cls d H' → W cls d σ' H') ∧ σ[0]? = some (some (.ref f)) ∧ H c' = some (CodeO c' q) ∧ tl Ech H D.rt)
      rfl rfl nd hi hln ⟨hgl, hde, .inl hme⟩ LamX.takes0 (fun W pn xe tk _ => ?_) (fun a oe cls d pn hz hf => pss_len (hsu s H a oe cls d pn hz hf))), ?_⟩
  · refine ⟨fun pins z σ H' D I h' => ?_⟩
    obtain ⟨Ech, hW, h1, h2, h3⟩ := h'
    exact (pss_one (ps_ret (pos := p3) (act W pn xe Ech p1 p2 tk hW))).run pins z σ H' D I ⟨h1, h2, h3⟩
  · refine ⟨fun cls d H' => rErr X.K cls d H' Q, fun cls d σ' H' hx => ?_, h0 f, hc, h⟩
    obtain ⟨z, v, rfl, E, r⟩ := id hx
    exact ⟨true, E.s, fun _ a _ hl => hp a _ d H' Q _ σ' hx rfl (by simpa using hl), fun z => nomatch z⟩
abbrev Lams : Type := List (He.Defn × Str)
def tabs (T : Lams) (K : PySem.W.Frag) : List (Addr × Str) := T.map fun p => ((He.cT K p.1).2, p.2)
structure TabF (K : PySem.W.Frag) (mg : Str → Option Value) (base : Heap) (T : Lams) : Prop where
  tb : ∀ p ∈ T, TabB base mg (He.cT K p.1).1 (He.cT K p.1).2
  nd : ((tabs T K).map (·.1)).Nodup
theorem uniq_of : ∀ {T : List (Addr × Str)} {c : Addr} {q : Str}, (T.map (·.1)).Nodup → (c, q) ∈ T → ∀ p ∈ T, p.1 = c → p.2 = q
  | [], _, _, _, h => nomatch h
  | z :: r, c, q, nd, h => fun p hp e => by
    rw [List.map_cons, List.nodup_cons] at nd
    rcases List.mem_cons.mp h with e1 | h1
    · rcases List.mem_cons.mp hp with e2 | h2
      · rw [e2, ← e1]
      · exact (nd.1 (List.mem_map.mpr ⟨p, h2, by rw [e, ← e1]⟩)).elim
    · rcases List.mem_cons.mp hp with e2 | h2
      · exact (nd.1 (List.mem_map.mpr ⟨_, h1, by rw [← e2, e]⟩)).elim
      · exact uniq_of nd.2 h1 p h2 e
structure ToldFn (P : Program) (w : World) (K : PySem.W.Frag) (mg : Str → Option Value) (base : Heap) (x : Str) : Prop where
  ex : ∃ (Ng : List Str) (y : Str) (g : Addr) (pr : Arguments) (bd : List Stmt) (sc : Scope) (dV kV doc pm cdv ct oc : Value) (an od : Option Addr) (osl : Array (Option Value)),
    K.lookup g = some ⟨oc, od, .func (PySem.W.fnOf x x pr bd sc dV kV doc pm an cdv ct), osl⟩ ∧ PySem.W.codeIn K cdv x = true ∧ L2.Binds K (PySem.W.fnOf x x pr bd sc dV kV doc pm an cdv ct) [y] [] ∧ FnScope Ng [y] sc ∧ Ng[0]? = some y ∧ Vis sc y ∧
    mg x = some (.ref g) ∧ PySem.W.keepIn K (.ref g) = true ∧ (y == ("__debug__" : Str)) = false ∧ (y == ("__classdict__" : Str)) = false ∧
    ∀ (X : Cx), X.prog = P → X.w = w → X.K = K → X.mg = mg → X.base = base → Room 2 X.A → ∀ q, GivesTo X Ng x sc g cdv bd y q (TTold K)
section
variable {X : Cx}
theorem pe_told {T : Lams} {p0 : He.Defn} {x : Str} {k : Nat} {params : Arguments} {body : Expr} {scope : Scope} {t : XK → TE} {p lpos pos : Pos} (F : ToldFn X.prog X.w X.K X.mg X.base x) (TF : TabF X.K X.mg X.base T) (hmT : (p0, X.env.qual ++ "<lambda>") ∈ T) (hcode : X.env.code = .ref (He.codeOf X.K p0)) (hg : Gl X x) (hr : Room (k + 2) X.A)
    (L : lamSB X.env.scope scope = true) (hdef : defaultsOf params X.env = ([], []))
    (hbind : ∀ (q : Str) (cl : List (Str × Addr)) (pm cv ctv : Value), bindArgs (PySem.W.kla_fn "<lambda>" q params body scope cl pm cv ctv) ⟨[], []⟩ = pure [])
    (hbody : ∀ (A : Around) (outer : List Env) (s : Shared) (H : Hp) (E : XK) (f c' : Addr), Room k (A.deeper (lamEnv X scope s.heap.objs.size f c')) → PE (lamCx X A outer s H E scope f c') body (t E))
    (hdb : (x == ("__debug__" : Str)) = false := by decide) :
    PE X (.Call (.Name x p) [.Lambda params body scope lpos] [] pos) (tLam (tabs T X.K) (TTold X.K) t) := by
  obtain ⟨Ng, y, g, pr, bd, sc, dV, kV, doc, pm, cdv, ct, oc, an, od, osl, lk, hcd, hb, S, hN, hv, hm, hk, h1, h2, hG⟩ := F.ex
  have mT : ((He.cT X.K p0).2, X.env.qual ++ "<lambda>") ∈ tabs T X.K := List.mem_map.mpr ⟨_, hmT, rfl⟩
  exact pe_lamcall hg hm hk lk hcd hb S hN hv (hG X rfl rfl rfl rfl rfl (hr.mono (by omega)) _) (TF.tb _ hmT) hcode mT (uniq_of TF.nd mT) hr (lamS_by L) hdef hbind hbody hdb h1 h2
end
section
variable {P : Program} {w : World} {K : PySem.W.Frag} {mg : Str → Option Value} {base : Heap} {k : Nat} {x qual : Str} {at_ : Str × Option Str} {params : Arguments} {body : List Stmt} {scope : Scope} {N ps : List Str} {sp : Sp} {fd : FuncData}
theorem fn_ofL (F : FunD K x qual params body scope [] [] (He.fAd K at_) fd) (S : FnScope N ps scope) (len : ∀ vs H Q E, sp vs H Q E → vs.length = ps.length)
    (t : XK → TS) (h : ∀ (A : Around) (outer : List Env) (s : Shared) (H : Hp) (E : XK), Room k (A.deeper (envOfC qual scope s.heap.objs.size (He.fAd K at_) (.ref (He.codeOf K at_)))) →
      PSs (cxOf (L2.CX P w) P w K mg base N qual scope (He.fAd K at_) (.ref (He.codeOf K at_)) A outer s H E) body (t E))
    (pure_ : ∀ vs H Q E, sp vs H Q E → t E { nx := fun _ H' => Q .non H', rt := Q } (start N vs) H) : FnOk P w K mg base (L2.CX P w) (k + 1) (He.fAd K at_) fd ps sp := by
  obtain ⟨oc, od, dV, kV, doc, pm, an, cdv, ct, osl, rfl, lk, hcd, _, _⟩ := F.ex
  obtain ⟨c, rfl⟩ := He.codeIn_ref hcd
  have e : He.codeOf K at_ = c := He.codeOf_eq lk rfl
  rw [e] at h
  exact fn_of lk hcd S len fun A outer s H vs Q E hr hsp => ⟨t E, h A outer s H E hr, pure_ vs H Q E hsp⟩
theorem warm_of {t : Addr → Addr → Option Addr → TS} {y : Str} (F : FunD K x x params body scope [] [] (He.fAd K (x, none)) fd) (b : Binds K fd [y] []) (S : FnScope N [y] scope) (hm : mg x = some (.ref (He.fAd K (x, none))))
    (h : ∀ (D a : Addr) (d : Option Addr) (oe : Obj), ExcC K D → Zc (.ref D) d oe → (∃ vs, oe.data = .fields vs) → ∀ (cdv : Value) (A : Around) (outer : List Env) (z : Shared) (H : Hp), PSs (cxP P w K mg base N x scope (He.fAd K (x, none)) cdv A outer z H a oe) body (t D a d)) : WarmFn P w K mg base x N t := by
  obtain ⟨oc, od, dV, kV, doc, pm, an, cdv, ct, osl, rfl, lk, hcd, _, _⟩ := F.ex
  exact ⟨_, _, _, _, _, dV, kV, doc, pm, cdv, ct, oc, an, od, osl, lk, hcd, S, b, hm, F.kp, fun D a d oe C hz hf A outer z H => h D a d oe C hz hf cdv A outer z H⟩
theorem told_of {y : Str} (F : FunD K x x params body scope [] [] (He.fAd K (x, none)) fd) (b : Binds K fd [y] []) (S : FnScope N [y] scope) (hN : N[0]? = some y) (hv : Vis scope y) (hm : mg x = some (.ref (He.fAd K (x, none)))) (h1 : (y == ("__debug__" : Str)) = false) (h2 : (y == ("__classdict__" : Str)) = false)
    (h : ∀ (cdv : Value) (X : Cx), X.prog = P → X.w = w → X.K = K → X.mg = mg → X.base = base → Room 2 X.A → ∀ q, GivesTo X N x scope (He.fAd K (x, none)) cdv body y q (TTold K)) : ToldFn P w K mg base x := by
  obtain ⟨oc, od, dV, kV, doc, pm, an, cdv, ct, osl, rfl, lk, hcd, _, _⟩ := F.ex
  exact ⟨_, _, _, _, _, _, dV, kV, doc, pm, cdv, ct, oc, an, od, osl, lk, hcd, b, S, hN, hv, hm, F.kp, h1, h2, fun X => h cdv X⟩
end
def xCount (K : PySem.W.Frag) : V → List V → Hp → VK → Prop := fun x xs H Q => ∃ a ys y, x = V.ref a ∧ xs = [y] ∧ SqL K H a ys ∧ flatV y = true ∧ ys.all flatV = true ∧ Q (.int ((ys.countP fun z => eqV z y : Nat) : Int)) H
theorem countU : ∀ {ys : List V} {its : List Value} {y : V}, Vals ys its → ys.all flatV = true → its.countP (eqU y) = ys.countP fun z => eqV z y
  | _, _, _, .nil, _ => rfl
  | z :: ys, u :: its, y, .cons r rr, f => by
    rw [List.all_cons, Bool.and_eq_true] at f
    rw [List.countP_cons, List.countP_cons, countU rr f.2, eqU_of r f.1]
theorem mt_countF {X : Cx} : MtR X "list.count" (xCount X.K) := by
  intro pins z σ H x xs v us Q I rx rxs h
  obtain ⟨a, ys, y, rfl, rfl, hs, fy, fys, q⟩ := h
  cases rx
  obtain ⟨u, rfl, ru⟩ := rxs.one
  obtain ⟨its, rv, ⟨⟨cls, dd, data, sl⟩, n, ho, hc, hdn, hd⟩, hlen⟩ := I.list hs
  cases (show cls = _ from hc)
  cases (show data = _ from hd)
  refine call_meets PySem.F.slot_list_count ⟨_, ho, rfl⟩ PySem.F.entry_list_count (PySem.F.args_list_count_2 _ _) (SeqAt.list_countAt a its.toArray n dd sl u (eqU y)) ⟨ho, fun u' hu' => mem_eqAt ru fy rv fys u' (by simpa using hu'), ?_⟩
  have ec : its.toArray.toList.countP (eqU y) = ys.countP fun z => eqV z y := countU rv fys
  rw [ec]
  exact ⟨.int ((ys.countP fun z => eqV z y : Nat) : Int), H, I.tok _, ⟨_, rfl⟩, q⟩
theorem room_suite {A : Around} {env : Env} {h : Option Value} (r : Room 2 A) : L2H.RoomH 1 ((A.deeper env).mark h) := ⟨(r.deeper env).dp, (r.deeper env).un⟩
end Rs

namespace Rs
open PySem PySem.Spec PyProof.Rows L2
def pairAt (H : Hp) : V → Int × Int
  | .ref a => (match H a with
    | some (.tup [.int x, .int y]) => (x, y)
    | _ => (0, 0))
  | _ => (0, 0)
theorem pairAt_of {H : Hp} {a : Addr} {q : Int × Int} (h : H a = some (.tup [.int q.1, .int q.2])) : pairAt H (.ref a) = q := by
  show (match H a with
    | some (.tup [.int x, .int y]) => (x, y)
    | _ => (0, 0)) = q
  rw [h]
def kkP (q : Int × Int) : List Key := [.inl q.1, .inl q.2]
def rSortedKT : List V → Hp → VK → Prop := fun vs H Q => ∃ (a : Addr) (kvs : List (List Key × V)) (qs : List (Int × Int)), vs = [.ref a] ∧ H a = some (.dT kvs) ∧ kvs.map (·.1) = qs.map kkP ∧
  ∀ (zs : List V) (ps : List (Int × Int)) (p : Addr), ps.Perm qs → ps.Pairwise (fun x y => SrtO.lexB y x = false) → Paired (fun v q => IsTp H v [.int q.1, .int q.2]) zs ps → H p = none → Q (.ref p) (upd H p (.lst zs))
section
variable {X : Cx}
theorem cr_sortedKT (hcalm : X.calm = true) : CallR X (.builtin "sorted") rSortedKT := by
  intro pins s σ H vs us Q I r h
  obtain ⟨a, kvs, qs, rfl, hd, hks, q⟩ := h
  obtain ⟨u, rfl, ru⟩ := vals1 r
  obtain rfl : u = Value.ref a := ru
  obtain ⟨z, hs, ks, pr, o, es, ep, ho, hx, hdt, he, hn⟩ := (show ObjOk X.prog X.w H s.heap a (.dT kvs) from (Rd.of hd).ok I.hok)
  have l1 : es.size = ks.length := size_of_entries he
  have l2 : kvs.length = ks.length := Paired.length pr
  have ik := isKeys_of pr
  generalize hbs : ks.map (fun x => x.2.1) = bs at ik
  have lb : bs.length = ks.length := by rw [← hbs, List.length_map]
  refine Calls.call_function_entry PyProof.Rows.kind_sorted PyProof.Rows.plain_sorted PyProof.Rows.entry_sorted (PyProof.Rows.args_sorted1 _) ?_
  unfold Builtin.«sorted»
  refine wpAny_bind (m := checkCount "sorted" 1 1 _) (wpAny_pure ?_)
  refine wpAny_bind (PySem.W.kdu_collect (A := X.A.in1) (kdl_raw hs hx hdt) (I.ok.hd hcalm) ho (by omega) fun h' tk acc hk it => ?_)
  have ea : acc.toList = bs.map Value.ref := by
    have hl : acc.toList.length = ks.length := by rw [Array.length_toList, it.1]; exact l1
    rw [← hbs, List.map_map]
    apply List.ext_getElem?
    intro j
    rw [List.getElem?_map]
    cases hj : acc.toList[j]? with
    | none =>
      have h1 := List.getElem?_eq_none_iff.mp hj
      rw [List.getElem?_eq_none (by omega)]
      all_goals rfl
    | some v =>
      obtain ⟨en, hen, hv⟩ := it.2 j v (by rw [← Array.getElem?_toList]; exact hj)
      have qe := entry_at he j
      rw [hen] at qe
      cases hb : ks[j]? with
      | none =>
        rw [hb] at qe
        exact nomatch (show some en = none from qe)
      | some b =>
        rw [hb] at qe
        have e2 : en = entryOfKey (tupleKind (mixKind X.prog X.w)) b := Option.some.inj qe
        rw [hv, e2]
        all_goals rfl
  have lz : acc.toList.length ≤ sizeLine := by rw [ea, List.length_map]; omega
  -- the pairs
  have pq : Paired (fun (b : Addr) (q : Int × Int) => H b = some (.tup [.int q.1, .int q.2])) bs qs := by
    have key : ∀ {kvs : List (List Key × V)} {bs : List Addr} {qs : List (Int × Int)}, IsKeys H kvs bs → kvs.map (·.1) = qs.map kkP → Paired (fun (b : Addr) (q : Int × Int) => H b = some (.tup [.int q.1, .int q.2])) bs qs := by
      intro kvs bs qs ik
      induction ik generalizing qs with
      | nil =>
        intro e
        cases qs with
        | nil => exact .nil
        | cons q qs => simp at e
      | cons h t ih =>
        intro e
        cases qs with
        | nil => simp at e
        | cons q qs =>
          rw [List.map_cons, List.map_cons] at e
          injection e with e1 e2
          refine .cons ?_ (ih e2)
          rw [h, e1]
          rfl
    exact key ik hks
  have hp : ∀ b ∈ bs, ∃ q : Int × Int, H b = some (.tup [.int q.1, .int q.2]) := fun b hb => by
    obtain ⟨j, hj, e⟩ := List.getElem_of_mem hb
    obtain ⟨q, _, hq⟩ := P2.get pq (List.getElem?_eq_getElem hj)
    rw [e] at hq
    exact ⟨q, hq⟩
  have I1 : Inv X pins σ H { s with heap := h', toks := tk } := I.kept hk
  refine wpAny_bind (wpAny_newList ?_ lz)
  have hoL : (h'.push (seqObj "list" acc.toList.toArray 0)).get? h'.objs.size = some (seqObj "list" acc.toList.toArray 0) := Heap.get?_push_size _ rfl
  show wpAny _ _ _ _ _ { s with heap := h'.push (seqObj "list" acc.toList.toArray 0), toks := tk }
  have isp : ∀ v ∈ acc.toList, Srt.IsPair (h'.push (seqObj "list" acc.toList.toArray 0)) v (pairAt H (backV v)).1 (pairAt H (backV v)).2 := fun v hv => by
    rw [ea] at hv
    obtain ⟨b, hb, rfl⟩ := List.mem_map.mp hv
    obtain ⟨q, hq⟩ := hp b hb
    have e : pairAt H (backV (Value.ref b)) = q := pairAt_of hq
    rw [e]
    obtain ⟨_, its2, r2, o2, ho2, hc2, n2, hd2⟩ := I1.hok _ _ hq
    obtain ⟨u1, u2, rfl, ri, rj⟩ := vals2 r2
    obtain ⟨t1, rfl⟩ := ri
    obtain ⟨t2, rfl⟩ := rj
    exact ⟨b, o2, t1, t2, n2, rfl, Heap.get?_push_of_some _ ho2, hc2, hd2⟩
  refine wpAny_bind (wpAny_holding (wpAny_call_entry PyProof.Rows.slot_list_sort ⟨_, hoL, rfl⟩ PyProof.Rows.entry_list_sort
    (SrtO.list_sort_ord (s := { s with heap := h'.push (seqObj "list" acc.toList.toArray 0), toks := tk }) (SrtO.swo_lex fun u => pairAt H (backV u)) hoL lz (fun h2 => SrtO.pairs_sortableO (by omega) isp fun o e => ?_) fun out h1 h2 => ⟨_, rfl, ?_⟩) (PyProof.Rows.args_list_sort _)))
  · have e' : some o = some (seqObj "list" acc.toList.toArray 0) := e.symm.trans hoL
    cases e'
    intro c
    exact absurd (Value.type.inj c) (by decide)
  obtain ⟨e', he'⟩ := PyProof.Rows.sortedHeap_at (vs := acc.toList) (out := out.toArray) hoL
  have perm := h2.perm
  rw [ea] at perm
  have h3 : ∀ u ∈ out, ∃ b ∈ bs, u = Value.ref b := fun u hu => by
    obtain ⟨b, hb, e⟩ := List.mem_map.mp (perm.mem_iff.mp hu)
    exact ⟨b, hb, e.symm⟩
  have hlen : (out.map backV).length ≤ sizeLine := by
    rw [List.length_map, perm.length_eq, List.length_map]
    omega
  have pb : (bs.map fun b => pairAt H (.ref b)) = qs := by
    have key : ∀ {bs : List Addr} {qs : List (Int × Int)}, Paired (fun (b : Addr) (q : Int × Int) => H b = some (.tup [.int q.1, .int q.2])) bs qs → (bs.map fun b => pairAt H (.ref b)) = qs := by
      intro bs qs p
      induction p with
      | nil => rfl
      | cons h t ih => rw [List.map_cons, ih, pairAt_of h]
    exact key pq
  refine wpAny_pure ⟨_, rfl, .ref h'.objs.size, upd H h'.objs.size (.lst (out.map backV)), I1.laid (t' := tk) (fun b u e => ?_) (Nat.le_refl _)
    (show ObjOk X.prog X.w _ _ _ (.lst (out.map backV)) from ⟨hlen, out, e', vals_back fun u hu => (let ⟨b, _, e⟩ := h3 u hu; ⟨b, e⟩), he'⟩), rfl, q (out.map backV) (out.map fun u => pairAt H (backV u)) _ ?_ ?_ ?_ (I1.hok.fresh (Nat.le_refl _))⟩
  · have hb : b < h'.objs.size := Heap.lt_size e
    rw [PyProof.Rows.sortedHeap_old (Nat.ne_of_lt hb) (by rw [size_push']; exact Nat.lt_succ_of_lt hb)]
    exact Heap.get?_push_of_some _ e
  · have := perm.map fun u => pairAt H (backV u)
    rw [List.map_map] at this
    have e : (fun u => pairAt H (backV u)) ∘ Value.ref = fun b => pairAt H (.ref b) := rfl
    rw [e, pb] at this
    exact this
  · exact List.pairwise_map.mpr h1
  · refine P2.map out fun u hu => ?_
    obtain ⟨b, hb, rfl⟩ := h3 u hu
    obtain ⟨q, hq⟩ := hp b hb
    have e : pairAt H (backV (Value.ref b)) = q := pairAt_of hq
    show IsTp H (.ref b) [.int (pairAt H (backV (Value.ref b))).1, .int (pairAt H (backV (Value.ref b))).2]
    rw [e]
    exact ⟨b, rfl, hq⟩
end
end Rs

namespace Rs
open PySem PySem.Spec PyProof.Rows L2
abbrev TK := List Key × Addr × Value
def mergedH (acc : List TK) (rest : List TK) : List TK := rest.foldl (fun a q => storedH a q.1 q.2.1 q.2.2) acc
theorem storedH_in {acc : List TK} {k : List Key} {a : Addr} {v : Value} {x : TK} (h : x ∈ storedH acc k a v) : x.2.1 = a ∨ ∃ y ∈ acc, y.2.1 = x.2.1 := by
  unfold storedH at h
  split at h
  · obtain ⟨y, hy, rfl⟩ := List.mem_map.mp h
    refine .inr ⟨y, hy, ?_⟩
    unfold putAt
    split <;> rfl
  · rcases List.mem_append.mp h with z | z
    · exact .inr ⟨x, z, rfl⟩
    · rw [List.mem_singleton.mp z]
      exact .inl rfl
theorem storedH_len (acc : List TK) (k : List Key) (a : Addr) (v : Value) : (storedH acc k a v).length ≤ acc.length + 1 := by
  unfold storedH
  split
  · rw [List.length_map]; omega
  · rw [List.length_append, List.length_singleton]; omega
section
variable {prog : Program} {w : World} {A : Around} {E : Value → Shared → Prop}
theorem dictT_keep {h h' : Heap} {S I : Addr} {acc : List TK} (d : h.DictOfH (tupleKind (mixKind prog w)) S acc) (k : ∀ b o, b ≠ I → h.get? b = some o → h'.get? b = some o) (hS : S ≠ I) (ha : ∀ x ∈ acc, x.2.1 ≠ I) : h'.DictOfH (tupleKind (mixKind prog w)) S acc := by
  obtain ⟨o, es, ep, ho, h1, h2, h3, h4, h5⟩ := d
  refine ⟨o, es, ep, k _ _ hS ho, h1, h2, h3, fun x hx => ?_, h5⟩
  obtain ⟨o2, it, n, e, r⟩ := h4 x hx
  exact ⟨o2, it, n, k _ _ (ha x hx) e, r⟩
theorem upd_loopT {R : Result → Shared → Prop} {S I l : Addr} {items : Array Value} {res : Value} (hu : (tupleKind (mixKind prog w)).room A.in1) (hh : A.handled = none) (hlI : l ≠ I) (hSI : S ≠ I) (hSl : S ≠ l) :
    ∀ (rest : List TK) (i : Nat) (acc : List TK) (ix : Int) (t : Tok) (s : Shared), items.size = i + rest.length → acc.length + rest.length ≤ sizeLine →
      (∀ (j : Nat) (q : TK), rest[j]? = some q → ∃ b : Addr, items[i + j]? = some (.ref b) ∧ b ≠ S ∧ b ≠ I ∧ IsTup s.heap b #[.ref q.2.1, q.2.2] ∧ q.2.1 ≠ S ∧ q.2.1 ≠ I ∧ (tupleKind (mixKind prog w)).is s.heap q.1 q.2.1) →
      (∀ x ∈ acc, x.2.1 ≠ I) → s.heap.IsListIter I l i → s.heap.IsList l items → s.heap.DictOfH (tupleKind (mixKind prog w)) S acc →
      (∀ h' tk, h'.DictOfH (tupleKind (mixKind prog w)) S (mergedH acc rest) → (∀ b o, b ≠ S → b ≠ I → s.heap.get? b = some o → h'.get? b = some o) → R (.ok (.ret res)) { s with heap := h', toks := tk }) →
      codeAny (model prog w) A (.builtin "dict.update.loop" ⟨[.ref S, .ref I, .int ix t, res], []⟩) R s
  | [], i, acc, ix, t, s, hsz, hln, ht, hacc, hit, hl, hm, hR => by
    refine codeAny_builtin ud_entry ?_
    rw [Around.under_plainId ud_plain _]
    show wpAny _ A.in1 (pyNext (.ref I) >>= _) _ _ s
    refine wpAny_bind (wpAny_pyNext_list_end (A := A.in1) hh hit hl (by first | exact Array.getElem?_eq_none (Nat.le_of_eq hsz) | (simp at hsz; simp; omega)) fun h' he => ?_)
    show wpAny _ A.in1 (Builtin.Dict.addKeywords S [] >>= _) _ _ _
    refine wpAny_bind (wpAny_pure (wpAny_pure ?_))
    exact hR h' s.toks (dictT_keep hm he hSI hacc) fun b o _ hb e => he b o hb e
  | q :: rest, i, acc, ix, t, s, hsz, hln, ht, hacc, hit, hl, hm, hR => by
    obtain ⟨b, hb, hbS, hbI, htup, hkS, hkI, hk⟩ := ht 0 q rfl
    rw [List.length_cons] at hsz hln
    refine codeAny_builtin ud_entry ?_
    rw [Around.under_plainId ud_plain _]
    show wpAny _ A.in1 (pyNext (.ref I) >>= _) _ _ s
    refine wpAny_bind (wpAny_pyNext_list_item (x := .ref b) hit hl (by simpa using hb) fun h1 hit1 hs1 => ?_)
    have ht1 : IsTup h1 b #[.ref q.2.1, q.2.2] := htup.extBut hs1.extBut hbI
    have hl1 : h1.IsList l items := hl.extBut hs1.extBut hlI
    have k1 : ∀ b o, b ≠ I → s.heap.get? b = some o → h1.get? b = some o := fun b o n e => hs1.extBut b o n e
    have hm1 : h1.DictOfH (tupleKind (mixKind prog w)) S acc := dictT_keep hm k1 hSI hacc
    have hk1 : (tupleKind (mixKind prog w)).is h1 q.1 q.2.1 := by
      obtain ⟨o2, it, n, e, r⟩ := hk
      exact ⟨o2, it, n, k1 _ _ hkI e, r⟩
    obtain ⟨o, ho, hc, n, hd⟩ := id ht1
    show wpAny _ A.in1 (holding [Value.ref b] _ >>= _) _ _ _
    refine wpAny_bind (wpAny_holding ?_)
    refine wpAny_bind (wpAny_tryCatch ?_)
    unfold Builtin.Dict.pairItems
    refine wpAny_bind (wpAny_typeOf (T := "tuple") ⟨o, ho, hc⟩ ?_)
    rw [if_pos (by first | decide | rfl | simp)]
    refine wpAny_bind (wpAny_seqItems ho hd (wpAny_pure ?_))
    show wpAny _ A.in1 (holding [.ref q.2.1, q.2.2] (dictSet S (.ref q.2.1) q.2.2)) _ _ _
    refine wpAny_holding (wpAny_dictSet_heap (hsz := by omega) hu hk1 hm1 (fun h2 hm2 hs2 => ?_))
    have k2 : ∀ b o, b ≠ S → h1.get? b = some o → h2.get? b = some o := fun b o n e => hs2.extBut b o n e
    refine wpAny_pure ⟨plainId_quiet ud_plain _, upd_loopT (items := items) hu hh hlI hSI hSl rest (i + 1) (storedH acc q.1 q.2.1 q.2.2) (ix + 1) 0 _ (show items.size = i + 1 + rest.length by omega) ?_ (fun j q' e => ?_) (fun x hx => ?_) ?_ ?_ hm2 fun h' tk hd' k => ?_⟩
    · have z := storedH_len acc q.1 q.2.1 q.2.2
      omega
    · obtain ⟨b', hb', hbS', hbI', htup', hkS', hkI', hk'⟩ := ht (j + 1) q' (by simpa using e)
      refine ⟨b', ?_, hbS', hbI', (htup'.extBut hs1.extBut hbI').extBut hs2.extBut hbS', hkS', hkI', ?_⟩
      · rw [show i + 1 + j = i + (j + 1) by omega]
        exact hb'
      · obtain ⟨o2, it, n, e, r⟩ := hk'
        exact ⟨o2, it, n, k2 _ _ hkS' (k1 _ _ hkI' e), r⟩
    · rcases storedH_in hx with z | ⟨y, hy, z⟩
      · rw [z]; exact hkI
      · rw [← z]; exact hacc y hy
    · exact hit1.at fun o' e => hs2.extBut I o' (Ne.symm hSI) e
    · exact hl1.extBut hs2.extBut (Ne.symm hSl)
    · exact hR h' tk hd' fun c oc h3 h4 e => k c oc h3 h4 (k2 c oc h3 (k1 c oc h4 e))
theorem call_dict_pairsT {s : Shared} {l : Addr} {ol : Obj} {items : Array Value} {n : Nat} {prs : List TK} {Q : Value → Shared → Prop} (hu : (tupleKind (mixKind prog w)).room A.in1.in1) (hh : A.handled = none) (hl : s.heap.get? l = some ol) (hc : ol.cls = .type "list") (hd : ol.dict = none)
    (hdat : ol.data = .seq items n) (hsz : items.size = prs.length) (hln : prs.length ≤ sizeLine)
    (ht : ∀ (j : Nat) (q : TK), prs[j]? = some q → ∃ b : Addr, items[j]? = some (.ref b) ∧ IsTup s.heap b #[.ref q.2.1, q.2.2] ∧ (tupleKind (mixKind prog w)).is s.heap q.1 q.2.1)
    (h : ∀ h' tk, h'.DictOfH (tupleKind (mixKind prog w)) s.heap.objs.size (mergedH [] prs) → (∀ b o, s.heap.get? b = some o → h'.get? b = some o) → Q (.ref s.heap.objs.size) { s with heap := h', toks := tk }) :
    wpAny (model prog w) A (call (.type "dict") [.ref l]) Q E s := by
  refine callType_codes (Q₁ := fun obj s₁ => obj = .ref s.heap.objs.size ∧ s₁ = { s with heap := s.heap.push { cls := .type "dict", data := .dict #[] } }) PySem.F.kt_called_dict (PySem.F.kt_typeCall_dict_1 _) PySem.F.entry_dict_init (kt_code_dict_new _ ⟨rfl, rfl⟩) ?_
  rintro obj s₁ ⟨rfl, rfl⟩
  have hnew0 : (s.heap.push { cls := .type "dict", data := .dict #[] }).DictOf (mixKind prog w) s.heap.objs.size [] := Heap.DictOf.new s.heap
  have hnew : (s.heap.push { cls := .type "dict", data := .dict #[] }).DictOfH (tupleKind (mixKind prog w)) s.heap.objs.size [] := Heap.DictOfH.new s.heap
  have k0 : ∀ b o, s.heap.get? b = some o → (s.heap.push { cls := .type "dict", data := .dict #[] }).get? b = some o := fun b o e => Heap.get?_push_of_some _ e
  refine ⟨hnew0.typeIs, PySem.F.args_dict_init_2 _ _, ?_⟩
  unfold Builtin.«dict.__init__»
  refine wpAny_bind ?_
  unfold Builtin.Dict.selfAndRest
  refine wpAny_bind (wpAny_notOrdered_dict hnew0.typeIs ?_)
  show wpAny _ _ (pure (s.heap.objs.size, [Value.ref l])) _ _ _
  refine wpAny_pure ?_
  show wpAny _ _ (Builtin.Dict.updateFrom "dict.__init__" s.heap.objs.size (.ref l) [] .none) _ _ _
  unfold Builtin.Dict.updateFrom
  refine wpAny_bind (wpAny_typeOf (T := "list") ⟨ol, k0 _ _ hl, hc⟩ ?_)
  rw [if_pos (by first | decide | rfl | simp)]
  refine wpAny_bind (miss_list (k0 _ _ hl) hc hdat hd hh fun h1 tk1 hk1 => ?_)
  rw [if_pos (show (none : Option Value).isNone = true from rfl)]
  refine wpAny_bind (wpAny_rule ?_)
  have hl1 : h1.IsList l items := ⟨ol, hk1 _ _ (k0 _ _ hl), hc, n, hdat⟩
  have hS1 : s.heap.objs.size < h1.objs.size := by
    have e : (s.heap.push { cls := .type "dict", data := .dict #[] }).get? s.heap.objs.size = some { cls := .type "dict", data := .dict #[] } := Heap.get?_push_size _ rfl
    exact Heap.lt_size (hk1 _ _ e)
  refine wpAny_bind (wpAny_pyIter_list hl1 ?_)
  have k2 : ∀ b o, h1.get? b = some o → (h1.push { cls := .type "list_iterator", data := .fields #[.ref l, .int 0 0] }).get? b = some o := fun b o e => Heap.get?_push_of_some _ e
  have kall : ∀ b o, s.heap.get? b = some o → (h1.push { cls := .type "list_iterator", data := .fields #[.ref l, .int 0 0] }).get? b = some o := fun b o e => k2 _ _ (hk1 _ _ (k0 _ _ e))
  have hlt : l < s.heap.objs.size := Heap.lt_size hl
  have isnew : (h1.push { cls := .type "list_iterator", data := .fields #[.ref l, .int 0 0] }).DictOfH (tupleKind (mixKind prog w)) s.heap.objs.size [] := by
    obtain ⟨o, es, ep, ho, q⟩ := hnew
    exact ⟨o, es, ep, k2 _ _ (hk1 _ _ ho), q.1, q.2.1, q.2.2.1, fun x hx => (by simp at hx), q.2.2.2.2⟩
  have key := upd_loopT (prog := prog) (w := w) (A := A.in1) (R := wants (fun r s₂ => r = .none ∧ Q (.ref s.heap.objs.size) s₂) E) (S := s.heap.objs.size) (I := h1.objs.size) (l := l) (items := items) (res := Value.none) hu hh
    (Nat.ne_of_lt (Nat.lt_trans hlt hS1)) (Nat.ne_of_lt hS1) (Nat.ne_of_gt hlt) prs 0 [] 0 0
    { s with heap := h1.push { cls := .type "list_iterator", data := .fields #[.ref l, .int 0 0] }, toks := tk1 } (by rw [hsz, Nat.zero_add]) (by rw [List.length_nil, Nat.zero_add]; exact hln)
    (fun j q e => by
      obtain ⟨b, e1, e2, e3⟩ := ht j q e
      have hb : b < s.heap.objs.size := e2.lt
      obtain ⟨o2, it, n2, e4, r4⟩ := e3
      have hk : q.2.1 < s.heap.objs.size := Heap.lt_size e4
      exact ⟨b, by rw [Nat.zero_add]; exact e1, Nat.ne_of_lt hb, Nat.ne_of_lt (Nat.lt_trans hb hS1), e2.keeps fun c o z => kall _ _ z, Nat.ne_of_lt hk, Nat.ne_of_lt (Nat.lt_trans hk hS1), ⟨o2, it, n2, kall _ _ e4, r4⟩⟩)
    (fun x hx => by simp at hx)
    ⟨_, Heap.get?_push_size _ rfl, rfl, rfl⟩ (hl1.at fun o e => k2 _ _ e) isnew
    (fun h' tk hd' k => ⟨rfl, h h' tk hd' fun b o e => k b o (Nat.ne_of_lt (Heap.lt_size e)) (Nat.ne_of_lt (Nat.lt_trans (Heap.lt_size e) hS1)) (kall _ _ e)⟩)
  first
    | exact wpAny_pure ⟨plainId_quiet ud_plain _, key⟩
    | exact wpAny_bind (wpAny_pure (wpAny_pure ⟨plainId_quiet ud_plain _, key⟩))
end
def mergeT (kvs more : List (List Key × V)) : List (List Key × V) := more.foldl (fun acc kv => putK acc kv.1 kv.2) kvs
theorem KT_merge {H : Hp} : ∀ {more : List (List Key × V)} {rs : List TK} {kvs : List (List Key × V)} {xs : List TK}, KT H more rs → KT H kvs xs → KT H (mergeT kvs more) (mergedH xs rs)
  | [], [], _, _, _, q => q
  | p :: more, q :: rs, kvs, xs, .cons h t, r0 => by
    have e : KT H (putK kvs p.1 p.2) (storedH xs q.1 q.2.1 q.2.2) := by
      have := KT.put r0 p.1 h.2.1 h.2.2
      rw [← h.1]
      exact this
    exact KT_merge (more := more) (rs := rs) t e
theorem mergeT_len : ∀ (more kvs : List (List Key × V)), (mergeT kvs more).length ≤ kvs.length + more.length
  | [], kvs => by simp [mergeT]
  | p :: more, kvs => by
    have a := mergeT_len more (putK kvs p.1 p.2)
    have b := length_putK kvs p.1 p.2
    show (mergeT (putK kvs p.1 p.2) more).length ≤ _
    rw [List.length_cons]
    omega
def xDictPT (K : PySem.W.Frag) : List V → Hp → VK → Prop := fun xs H Q => ∃ (a : Addr) (ps : List Addr) (kvs : List (List Key × V)), xs = [.ref a] ∧ SqL K H a (ps.map V.ref) ∧ Paired (fun p kv => ∃ b, SqT K H p [.ref b, kv.2] ∧ H b = some (.tup (kv.1.map kV))) ps kvs ∧
  ∀ p, H p = none → Q (.ref p) (upd H p (.dT (mergeT [] kvs)))
theorem hu16 {A : Around} {k : Nat} (hr : Room k A) : A.units + 16 < cLine := by have := hr.un; omega
section
variable {X : Cx}
theorem pairs_ofT {pins : List (Addr × Obj)} {σ : L2.St} {H : Hp} {s : Shared} (I : Inv X pins σ H s) : ∀ {ps : List Addr} {kvs : List (List Key × V)}, Paired (fun p kv => ∃ b, SqT X.K H p [.ref b, kv.2] ∧ H b = some (.tup (kv.1.map kV))) ps kvs →
    ∃ prs : List TK, KT H kvs prs ∧ prs.length = ps.length ∧ ∀ (j : Nat) (q : TK), prs[j]? = some q → ∃ b : Addr, ps[j]? = some b ∧ IsTup s.heap b #[.ref q.2.1, q.2.2] ∧ (tupleKind (mixKind X.prog X.w)).is s.heap q.1 q.2.1
  | _, _, .nil => ⟨[], .nil, rfl, fun j q e => by simp at e⟩
  | _, _, .cons (a := p) (b := kv) h t => by
    obtain ⟨prs, r, hl, hp⟩ := pairs_ofT I t
    obtain ⟨kb, h1, h2⟩ := h
    obtain ⟨its, rv, ht, _⟩ := I.tuple h1
    obtain ⟨u, y, ei, ru, ry⟩ := vals2 rv
    subst ei
    obtain rfl : u = Value.ref kb := ru
    refine ⟨(kv.1, kb, y) :: prs, .cons ⟨rfl, h2, ry⟩ r, by rw [List.length_cons, List.length_cons, hl], fun j q e => ?_⟩
    cases j with
    | zero =>
      have e' : (kv.1, kb, y) = q := Option.some.inj e
      subst e'
      exact ⟨p, rfl, ht, key_of I.hok h2⟩
    | succ j =>
      obtain ⟨b, e1, e2, e3⟩ := hp j q (by simpa using e)
      exact ⟨b, by simpa using e1, e2, e3⟩
theorem call_dictPT (hu : X.A.units + 16 < cLine) (hcalm : X.calm = true) : CallR X (.type "dict") (xDictPT X.K) := by
  intro pins s σ H xs us Q I r q
  obtain ⟨a, ps, kvs, ex, hq, hp, q⟩ := q
  subst ex
  obtain ⟨u, eu, rx⟩ := vals1 r
  subst eu
  cases rx
  obtain ⟨its, rv, pl, hz⟩ := I.list hq
  have ei := refs_at rv
  subst ei
  rw [List.length_map] at hz
  obtain ⟨prs, rel, hl, hpr⟩ := pairs_ofT I hp
  have lk : kvs.length = prs.length := Paired.length rel
  obtain ⟨o, n, ho, hc, hd, hdat⟩ := pl
  refine call_dict_pairsT (prs := prs) ?_ (I.ok.hd hcalm) ho hc hd hdat (by simp [hl]) (by rw [hl]; exact hz) (fun j q' e => ?_) fun h' tk hd' k => ?_
  · exact tupleKind_room_in1 (by simp only [Around.in1_units]; omega)
  · obtain ⟨b, e1, e2, e3⟩ := hpr j q' e
    exact ⟨b, by simp [e1], e2, e3⟩
  · have hm : (s.heap.objs.size == sysModules) = false := beq_eq_false_iff_ne.mpr (Nat.ne_of_gt I.big)
    have hlen : (mergeT [] kvs).length ≤ sizeLine := by
      have := mergeT_len kvs []
      rw [List.length_nil, Nat.zero_add] at this
      omega
    obtain ⟨o2, es, ep, ho2, hx2, hd2, he2, _, hn2⟩ := hd'
    have kt := KT_merge rel (.nil : KT H [] [])
    have hfr := I.hok.fresh (Nat.le_refl s.heap.objs.size)
    exact ⟨.ref s.heap.objs.size, upd H s.heap.objs.size (.dT (mergeT [] kvs)), I.laid (t' := tk) k (Nat.le_refl _) (show ObjOk X.prog X.w _ _ _ (.dT (mergeT [] kvs)) from ⟨hlen, hm, mergedH [] prs, kt.keeps (fun b ys e => by rw [upd_ne (ne_of_none e hfr)]; exact e), o2, es, ep, ho2, hx2, hd2, he2, hn2⟩), rfl, q _ hfr⟩
end
end Rs

namespace Rs
open PySem PySem.Spec PyProof.Rows L2
section
variable {X : Cx}
end
theorem slTA {K : PySem.W.Frag} {H : Hp} {Q : VK} {a : Addr} {xs : List V} {lo hi : Option Int} (h : H a = some (.tup xs)) (q : ∀ p H', H' p = some (.tup (cutV xs lo hi)) → Same H H' → Q (.ref p) H') : rSlA K (.ref a) lo hi H Q := by
  refine ⟨a, xs, rfl, SqT.of h, fun z => ?_, fun _ p hp => q p _ upd_same (Rs.Same.new hp)⟩
  refine q a H ?_ (Same.refl _)
  rw [h]
  unfold cutV
  rw [z.1, z.2, List.drop_zero, Nat.sub_zero, List.take_length]
end Rs

namespace Rs
open PySem PySem.Spec PyProof.Rows L2
section
variable {X : Cx}
end
end Rs

namespace Rs
open PySem PySem.Spec PyProof.Rows L2
abbrev Hds := List (Option Pr)
def hd (hs : Hds) (s : Nat) : Option Pr := (hs.getD s none)
def hdV (hs : Hds) (s : Nat) : Pr := (hd hs s).getD c0.2
def pick (o : Ord) (hs : Hds) : Option Nat → Option Nat → Option Nat
  | none, b => b
  | some i, none => some i
  | some i, some j => if before o (hdV hs i) (hdV hs j) then some i else some j
def leafOf (hs : Hds) (s : Nat) : Option Nat := if (hd hs s).isSome then some s else none
def bst (bs : List (Option Nat)) (k : Nat) : Option Nat := bs.getD k none
structure TreeOk (o : Ord) (hs : Hds) (bs : List (Option Nat)) (many : Nat) (bad : Nat → Prop) : Prop where
  len : bs.length = 2 * many
  leaf : ∀ s, s < many → bst bs (many + s) = leafOf hs s
  knot : ∀ k, 1 ≤ k → k < many → ¬ bad k → bst bs k = pick o hs (bst bs (2 * k)) (bst bs (2 * k + 1))
theorem TreeOk.imp {o : Ord} {hs : Hds} {bs : List (Option Nat)} {many : Nat} {p q : Nat → Prop} (T : TreeOk o hs bs many p) (h : ∀ k, p k → q k) : TreeOk o hs bs many q := ⟨T.len, T.leaf, fun k a b c => T.knot k a b fun z => c (h k z)⟩
end Rs

namespace Rs
open PySem PySem.Spec PyProof.Rows L2
structure TxtTree (K : PySem.W.Frag) : Prop where
  cl : Cls K (He.ga K "Tree")
  n_order : NoAttr K (He.ga K "Tree") "order"
  n_heads : NoAttr K (He.ga K "Tree") "heads"
  n_many : NoAttr K (He.ga K "Tree") "many"
  n_looks : NoAttr K (He.ga K "Tree") "looks"
  n_best : NoAttr K (He.ga K "Tree") "best"
def f_Tree (x0 x1 x2 x3 x4 : V) : List (Str × V) := [(("order" : Str), x0), (("heads" : Str), x1), (("many" : Str), x2), (("looks" : Str), x3), (("best" : Str), x4)]
def TreeOb (K : PySem.W.Frag) (H : Hp) (p : Addr) (x0 x1 x2 x3 x4 : V) : Prop := ∃ dx, H p = some (.ins (He.ga K "Tree") dx (f_Tree x0 x1 x2 x3 x4))
section
variable {K : PySem.W.Frag} {x0 x1 x2 x3 x4 y : V} {H : Hp} {Q : VK} {p : Addr} {D : Ends} {σ : L2.St}
end
section
variable {K : PySem.W.Frag} {x0 x1 x2 x3 x4 y : V} {H : Hp} {Q : VK} {p dx : Addr} {D : Ends} {σ : L2.St}
end
theorem But.tupOf {S : List Addr} {H H' : Hp} (k : But S H H') (h : ∀ b ∈ S, ∀ xs, H b ≠ some (.tup xs)) : TupLe H H' := fun c xs e => k c _ e (fun hm => h c hm xs e)
theorem nt_lst {H : Hp} {b : Addr} {vs : List V} (h : H b = some (.lst vs)) : ∀ xs, H b ≠ some (.tup xs) := fun xs e => by rw [h] at e; cases e
theorem nt_ins {H : Hp} {b C dx : Addr} {fs : List (Str × V)} (h : H b = some (.ins C dx fs)) : ∀ xs, H b ≠ some (.tup xs) := fun xs e => by rw [h] at e; cases e
theorem all3 {P : Addr → Prop} {a b c : Addr} (h1 : P a) (h2 : P b) (h3 : P c) : ∀ x ∈ [a, b, c], P x := fun x hx => by
  simp only [List.mem_cons, List.not_mem_nil, or_false] at hx
  rcases hx with rfl | rfl | rfl <;> assumption
def NatAt : Rel (Option Nat) := fun _ v q => match q with
  | none => v = .non
  | some n => v = .int ((n : Nat) : Int)
theorem NatAt.st : Stable NatAt := fun _ _ _ _ _ h => h
structure TreeS (K : PySem.W.Frag) (H : Hp) (p lo lh lb : Addr) (o : Ord) (hs : Hds) (bs : List (Option Nat)) (many : Nat) (looks : Int) : Prop where
  ob : TreeOb K H p (.ref lo) (.ref lh) (.int (many : Int)) (.int looks) (.ref lb)
  ord : Lst TurnAt H lo o
  heads : Lst OptAt H lh hs
  best : Lst NatAt H lb bs
  nhb : lh ≠ lb
  noh : lo ≠ lh
  nob : lo ≠ lb
theorem TreeOb.keep {K : PySem.W.Frag} {H H' : Hp} {p : Addr} {x0 x1 x2 x3 x4 : V} (h : TreeOb K H p x0 x1 x2 x3 x4) (k : ∀ o, H p = some o → H' p = some o) : TreeOb K H' p x0 x1 x2 x3 x4 := let ⟨dx, e⟩ := h; ⟨dx, k _ e⟩
section
variable {K : PySem.W.Frag} {H H' : Hp} {p lo lh lb : Addr} {o : Ord} {hs hs' : Hds} {bs bs' : List (Option Nat)} {many : Nat} {looks looks' : Int} {vs : List V}
theorem TreeS.tup (T : TreeS K H p lo lh lb o hs bs many looks) (k : But [p, lh, lb] H H') : TupLe H H' := by
  obtain ⟨dx, e⟩ := T.ob
  obtain ⟨_, e2, _⟩ := T.heads
  obtain ⟨_, e3, _⟩ := T.best
  exact k.tupOf (all3 (nt_ins e) (nt_lst e2) (nt_lst e3))
theorem TreeS.keep (T : TreeS K H p lo lh lb o hs bs many looks) (t : TupLe H H') (k : ∀ b, b = p ∨ b = lo ∨ b = lh ∨ b = lb → ∀ u, H b = some u → H' b = some u) : TreeS K H' p lo lh lb o hs bs many looks :=
  ⟨T.ob.keep (k _ (.inl rfl)), T.ord.keep TurnAt.st t (k _ (.inr (.inl rfl))), T.heads.keep OptAt.st t (k _ (.inr (.inr (.inl rfl)))), T.best.keep NatAt.st t (k _ (.inr (.inr (.inr rfl)))), T.nhb, T.noh, T.nob⟩
theorem TreeS.same (T : TreeS K H p lo lh lb o hs bs many looks) (s : Same H H') : TreeS K H' p lo lh lb o hs bs many looks := T.keep (TupLe.same s) fun b _ u => s b u
end
def lk : Option Nat → Option Nat → Int
  | some _, some _ => 1
  | _, _ => 0
def HdOk (ks : List Str) (hs : Hds) (a : Option Nat) : Prop := ∀ i, a = some i → ∃ q, hs[i]? = some (some q) ∧ isRow ks q.2 = true
theorem HdOk.of {ks : List Str} {hs : Hds} {a : Option Nat} (hok : ∀ s p, hd hs s = some p → isRow ks p.2 = true) (h : ∀ s, a = some s → (hd hs s).isSome = true) : HdOk ks hs a := fun i hi => by
  have := h i hi
  cases hq : hd hs i with
  | none => rw [hq] at this; cases this
  | some q =>
    refine ⟨q, ?_, hok i q hq⟩
    unfold hd at hq
    rw [List.getD_eq_getElem?_getD] at hq
    cases e : hs[i]? with
    | none => rw [e] at hq; cases hq
    | some z => rw [e] at hq; rw [← hq]; rfl
def cnt (bs : List (Option Nat)) (a : Nat) : Nat := ((bs.drop a).filter fun z => z.isSome).length
end Rs

namespace Rs
open PySem PySem.Spec PyProof.Rows L2
structure Mg (ks : List Str) (o : Ord) (found : List Pr) (ts : List (List Pr)) : Prop where
  fine : Fine ks (found ++ ts.flatten)
  up : Up o found
  ups : ∀ t ∈ ts, Up o t
  cross : ∀ x ∈ found, ∀ y ∈ ts.flatten, before o x y = true
end Rs

namespace Rs
open PySem PySem.Spec PyProof.Rows L2
structure TxtSieve (K : PySem.W.Frag) : Prop where
  cl : Cls K (He.ga K "Sieve")
  n_kinds : NoAttr K (He.ga K "Sieve") "kinds"
  n_room : NoAttr K (He.ga K "Sieve") "room"
  n_many : NoAttr K (He.ga K "Sieve") "many"
def f_Sieve (x0 x1 x2 : V) : List (Str × V) := [(("kinds" : Str), x0), (("room" : Str), x1), (("many" : Str), x2)]
def SieveOb (K : PySem.W.Frag) (H : Hp) (p : Addr) (x0 x1 x2 : V) : Prop := ∃ dx, H p = some (.ins (He.ga K "Sieve") dx (f_Sieve x0 x1 x2))
section
variable {K : PySem.W.Frag} {x0 x1 x2 y : V} {H : Hp} {Q : VK} {p : Addr} {D : Ends} {σ : L2.St}
end
section
variable {K : PySem.W.Frag} {x0 x1 x2 y : V} {H : Hp} {Q : VK} {p dx : Addr} {D : Ends} {σ : L2.St}
end
structure SieveS (K : PySem.W.Frag) (H : Hp) (p : Addr) (kv : V) (pr lo lc : Addr) (ks : List Str) (o : Ord) (cs : List Cell) (many : Int) : Prop where
  ob : SieveOb K H p kv (.ref pr) (.int many)
  kinds : KindsAt H kv ks
  room : RoomS K H pr lo lc o cs
  ne : p ≠ pr
theorem SieveOb.keep {K : PySem.W.Frag} {H H' : Hp} {p : Addr} {x0 x1 x2 : V} (h : SieveOb K H p x0 x1 x2) (k : ∀ o, H p = some o → H' p = some o) : SieveOb K H' p x0 x1 x2 := let ⟨dx, e⟩ := h; ⟨dx, k _ e⟩
section
variable {K : PySem.W.Frag} {H H' : Hp} {p pr lo lc : Addr} {kv : V} {ks : List Str} {o : Ord} {cs cs' : List Cell} {many many' : Int}
theorem SieveS.tup (S : SieveS K H p kv pr lo lc ks o cs many) (k : But [p, lc] H H') : TupLe H H' := fun c xs e => by
  obtain ⟨dx, e1⟩ := S.ob
  obtain ⟨vs, e2, _⟩ := S.room.cells
  exact k c _ e (nn (ne_of e e1 (by intro z; cases z)) (ne_of e e2 (by intro z; cases z)))
theorem SieveS.same (S : SieveS K H p kv pr lo lc ks o cs many) (s : Same H H') : SieveS K H' p kv pr lo lc ks o cs many := ⟨S.ob.keep fun u => s p u, S.kinds.mono (TupLe.same s), S.room.same s, S.ne⟩
end
end Rs

namespace RsM
open PySem PySem.SeqAt
section
variable {prog : Program} {w : World} {A : Around} {R : Result → Shared → Prop} {I : Addr} {fp wr : List Addr} {n : Nat} {P : Nat → Value → Prop} {St : Nat → Heap → Prop}
def CmpSt (prog : Program) (w : World) (A : Around) (base : Heap) (P : Nat → Value → Prop) (bt : Nat → Nat → Bool) : Prop :=
  ∀ i j x y (z : Shared) (Qz : Value → Shared → Prop) (Ez : Value → Shared → Prop), j < i → (∀ c o, base.get? c = some o → z.heap.get? c = some o) → P i x → P j y → Qz (.bool (bt i j)) z → wpAny (model prog w) A (richCompare .Lt x y) Qz Ez z
theorem best_le (bt : Nat → Nat → Bool) : ∀ q, argBest bt q ≤ q
  | 0 => Nat.le_refl _
  | q + 1 => by
    unfold argBest
    have := best_le bt q
    split <;> omega
theorem more (W : Walks prog w A.in1 I fp wr n P St) {base : Heap} {bt : Nat → Nat → Bool} (cmp : CmpSt prog w A.in1 base P bt) {L : Addr} (nf : L ∉ fp) (old : ∀ c o, base.get? c = some o → c ∉ wr ∧ c ≠ L) :
    ∀ (m q : Nat) (z : Shared) (best : Value) (c : Nat), n - (q + 1) = m → q + 1 ≤ n → St (q + 1) z.heap → P (argBest bt q) best → (∀ c o, base.get? c = some o → z.heap.get? c = some o) →
    z.heap.get? L = some { cls := .type "list", dict := none, data := .seq #[best, best] c, slots := #[] } →
    (∀ v g tk, P (argBest bt (n - 1)) v → (∀ b o, b ∉ wr → b ≠ L → z.heap.get? b = some o → g.get? b = some o) → R (.ok (.ret v)) { z with heap := g, toks := tk }) →
    codeAny (model prog w) A (.builtin "min.loop" ⟨[.ref I, .none, .ref L], []⟩) R z := by
  have nw : L ∉ wr := fun h => nf (W.sub _ h)
  have nm : (toString "min" ++ toString ".loop" : String) = "min.loop" := by decide
  intro m
  induction m with
  | zero =>
    intro q z best c hm hq st pb hb hL fin
    have en : q + 1 = n := by omega
    refine codeAny_builtin F.entry_min_loop ?_; rw [Around.under_plainId F.plain_min_loop _]
    show wpAny _ A.in1 (seqItems? (.ref L) >>= _) _ _ z
    refine wpAny_bind (wpAny_seqItems hL rfl ?_); show wpAny _ A.in1 (tryCatch (pyNext (.ref I)) _ >>= _) _ _ z
    refine wpAny_bind (wpAny_tryCatch (W.done z _ _ (en ▸ st) fun g tk kp => ?_))
    have hL2 := kp L _ nw hL
    show wpAny _ A.in1 (updateSeq L (fun _ => #[]) >>= _) _ _ _
    refine wpAny_bind ?_
    refine wpAny_updateSeq hL2 rfl (wpAny_bind (wpAny_letGo (wpAny_pure ?_)))
    refine fin best _ tk (by rw [← en]; exact pb) fun b o hbw hbL e => (Heap.get?_update_other _ _ (Ne.symm hbL)).trans (kp b o hbw e)
  | succ m ih =>
    intro q z best c hm hq st pb hb hL fin
    have lt : q + 1 < n := by omega
    refine codeAny_builtin F.entry_min_loop ?_; rw [Around.under_plainId F.plain_min_loop _]
    show wpAny _ A.in1 (seqItems? (.ref L) >>= _) _ _ z
    refine wpAny_bind (wpAny_seqItems hL rfl ?_); show wpAny _ A.in1 (tryCatch (pyNext (.ref I)) _ >>= _) _ _ z
    refine wpAny_bind (wpAny_tryCatch (W.item (q + 1) z _ _ lt st fun v g tk pv st2 kp => ?_))
    have hL2 := kp L _ nw hL
    have hb2 : ∀ c o, base.get? c = some o → g.get? c = some o := fun c o e => kp c o (old c o e).1 (hb c o e)
    show wpAny _ A.in1 (tryCatch (holding [v, v] (richCompare .Lt v best >>= _)) _ >>= _) _ _ _
    refine wpAny_bind (wpAny_tryCatch (wpAny_holding (wpAny_bind (cmp (q + 1) (argBest bt q) v best _ _ _ (Nat.lt_succ_of_le (best_le bt q)) hb2 pv pb ?_))))
    refine wpAny_bind (wpAny_holding (wpAny_truthy_bool ?_)); refine wpAny_bind (wpAny_letGo (wpAny_pure ?_))
    cases hbt : bt (q + 1) (argBest bt q) with
    | true =>
      simp only [if_true]
      refine wpAny_bind ?_
      refine wpAny_updateSeq hL2 rfl (wpAny_bind (wpAny_letGo ?_))
      rw [nm]
      refine wpAny_pure ⟨plainId_quiet F.plain_min_loop _, ih (q + 1) _ v _ (by omega) lt (W.frame _ _ _ st2 fun b hbf o e => ?_) (by simp only [argBest, hbt, if_true]; exact pv) (fun c o e => ?_) (Heap.get?_update_self _ hL2 rfl) fun v' g' tk' pv' kp' => ?_⟩
      · exact (Heap.get?_update_other _ _ (fun h : L = b => nf (by rw [h]; exact hbf))).trans e
      · exact (Heap.get?_update_other _ _ (Ne.symm (old c o e).2)).trans (hb2 c o e)
      · exact fin v' g' tk' pv' fun b o hbw hbL e => kp' b o hbw hbL ((Heap.get?_update_other _ _ (Ne.symm hbL)).trans (kp b o hbw e))
    | false =>
      simp only [Bool.false_eq_true, if_false]
      refine wpAny_bind (wpAny_letGo ?_)
      rw [nm]
      refine wpAny_pure ⟨plainId_quiet F.plain_min_loop _, ih (q + 1) _ best c (by omega) lt st2 (by simp only [argBest, hbt, Bool.false_eq_true, if_false]; exact pb) hb2 hL2 fun v' g' tk' pv' kp' => ?_⟩
      exact fin v' g' tk' pv' fun b o hbw hbL e => kp' b o hbw hbL (kp b o hbw e)
theorem first (W : Walks prog w A.in1 I fp wr n P St) {base : Heap} {bt : Nat → Nat → Bool} (cmp : CmpSt prog w A.in1 base P bt) {L : Addr} (nf : L ∉ fp) (old : ∀ c o, base.get? c = some o → c ∉ wr ∧ c ≠ L) (pos : 0 < n) {z : Shared} {c : Nat} (st : St 0 z.heap) (hb : ∀ c o, base.get? c = some o → z.heap.get? c = some o)
    (hL : z.heap.get? L = some { cls := .type "list", dict := none, data := .seq #[] c, slots := #[] })
    (fin : ∀ v g tk, P (argBest bt (n - 1)) v → (∀ b o, b ∉ wr → b ≠ L → z.heap.get? b = some o → g.get? b = some o) → R (.ok (.ret v)) { z with heap := g, toks := tk }) :
    codeAny (model prog w) A (.builtin "min.loop" ⟨[.ref I, .none, .ref L], []⟩) R z := by
  have nw : L ∉ wr := fun h => nf (W.sub _ h)
  have nm : (toString "min" ++ toString ".loop" : String) = "min.loop" := by decide
  refine codeAny_builtin F.entry_min_loop ?_; rw [Around.under_plainId F.plain_min_loop _]
  show wpAny _ A.in1 (seqItems? (.ref L) >>= _) _ _ z
  refine wpAny_bind (wpAny_seqItems hL rfl ?_); show wpAny _ A.in1 (tryCatch (pyNext (.ref I)) _ >>= _) _ _ z
  refine wpAny_bind (wpAny_tryCatch (W.item 0 z _ _ pos st fun v g tk pv st2 kp => ?_))
  have hL2 := kp L _ nw hL
  have hb2 : ∀ c o, base.get? c = some o → g.get? c = some o := fun c o e => kp c o (old c o e).1 (hb c o e)
  show wpAny _ A.in1 (updateSeq L (fun _ => #[v, v]) >>= _) _ _ _
  refine wpAny_bind ?_
  refine wpAny_updateSeq hL2 rfl ?_
  rw [nm]
  refine wpAny_pure ⟨plainId_quiet F.plain_min_loop _, more W cmp nf old _ 0 _ v _ rfl pos (W.frame _ _ _ st2 fun b hbf o e => ?_) pv (fun c o e => ?_) (Heap.get?_update_self _ hL2 rfl) fun v' g' tk' pv' kp' => ?_⟩
  · exact (Heap.get?_update_other _ _ (fun h : L = b => nf (by rw [h]; exact hbf))).trans e
  · exact (Heap.get?_update_other _ _ (Ne.symm (old c o e).2)).trans (hb2 c o e)
  · exact fin v' g' tk' pv' fun b o hbw hbL e => kp' b o hbw hbL ((Heap.get?_update_other _ _ (Ne.symm hbL)).trans (kp b o hbw e))
end
section
variable {prog : Program} {w : World} {A : Around} {E : Value → Shared → Prop} {s : Shared}
theorem call_min_at {a b : Value} {k : Bool} {Q : Value → Shared → Prop} (hh : A.handled = none) (lt : ∀ z : Shared, (∀ c o, s.heap.get? c = some o → z.heap.get? c = some o) → RcLt A.in1 z b a k)
    (h : ∀ g tk, (∀ c o, s.heap.get? c = some o → g.get? c = some o) → Q (if k = true then b else a) { s with heap := g, toks := tk }) :
    wpAny (model prog w) A (call (.builtin "min") [a, b]) Q E s := by
  have nm : (toString "min" ++ toString ".loop" : String) = "min.loop" := by decide
  refine call_function_tree F.kind_min F.plain_min F.entry_min (F.args_min2 _ _) ?_
  show wpAny _ A.in1 (Builtin.Builtins.bindParams "min" ["key", "default"] 0 ⟨[], []⟩ >>= _) _ _ s
  refine wpAny_bind (wpAny_of_eq (show Builtin.Builtins.bindParams "min" ["key", "default"] 0 ⟨[], []⟩ = pure [none, none] from rfl) ?_); show wpAny _ A.in1 (newTuple [a, b] >>= _) _ _ s
  refine wpAny_bind (wpAny_newObj_type ?_)
  have hT : (s.heap.push { cls := .type "tuple", data := .seq #[a, b] }).IsTuple s.heap.objs.size #[a, b] := ⟨_, Heap.get?_push_size _ rfl, rfl, 0, rfl⟩
  refine wpAny_bind (wpAny_pyIter_tuple hT ?_)
  refine wpAny_bind (wpAny_newObj_type ?_)
  have z1 : (s.heap.push { cls := .type "tuple", data := .seq #[a, b] }).objs.size = s.heap.objs.size + 1 := Heap.size_push ..
  rw [nm]
  have sub1 : ∀ c o, s.heap.get? c = some o → (s.heap.push { cls := .type "tuple", data := .seq #[a, b] }).get? c = some o := fun c o e => Heap.get?_push_of_some _ e
  generalize hg1 : s.heap.push { cls := .type "tuple", data := .seq #[a, b] } = g1 at hT z1 sub1
  have e1 : (g1.push { cls := .type "tuple_iterator", data := .fields #[.ref s.heap.objs.size, .int 0 0] }).IsTupleIter g1.objs.size s.heap.objs.size 0 := ⟨_, Heap.get?_push_size _ rfl, rfl, rfl⟩
  have sub2 : ∀ c o, g1.get? c = some o → (g1.push { cls := .type "tuple_iterator", data := .fields #[.ref s.heap.objs.size, .int 0 0] }).get? c = some o := fun c o e => Heap.get?_push_of_some _ e
  have hT2 := hT.push { cls := .type "tuple_iterator", data := .fields #[.ref s.heap.objs.size, .int 0 0] }
  have z2 : (g1.push { cls := .type "tuple_iterator", data := .fields #[.ref s.heap.objs.size, .int 0 0] }).objs.size = s.heap.objs.size + 2 := by rw [Heap.size_push, z1]
  generalize g1.push { cls := .type "tuple_iterator", data := .fields #[.ref s.heap.objs.size, .int 0 0] } = g2 at e1 sub2 hT2 z2
  have old : ∀ c o, s.heap.get? c = some o → c ≠ g1.objs.size ∧ c ≠ g2.objs.size := fun c o e => by
    have := Heap.lt_size e
    rw [z1, z2]
    exact ⟨Nat.ne_of_lt (Nat.lt_of_lt_of_le this (Nat.le_succ _)), Nat.ne_of_lt (Nat.lt_of_lt_of_le this (Nat.le_add_right _ 2))⟩
  refine wpAny_pure ⟨plainId_quiet F.plain_min_loop _, first (bt := fun i j => k) (base := s.heap) (Walks.tuple (A := A.in1) hh g1.objs.size s.heap.objs.size (by rw [z1]; exact Nat.ne_of_lt (Nat.lt_succ_self _)) #[a, b]) (fun i j x y z Qz Ez ji hb px py q => ?_) (fun hm => ?_) (fun c o e => ?_) (by show 0 < 2; omega) ⟨e1.at fun o e => Heap.get?_push_of_some _ e, hT2.push _⟩ (fun c o e => ?_) (Heap.get?_push_size _ rfl) fun v g tk pv kp => ?_⟩
  · have hi := (Array.getElem?_eq_some_iff.mp px).1
    have hj := (Array.getElem?_eq_some_iff.mp py).1
    have hi2 : i < 2 := hi
    have i1 : i = 1 := by omega
    have j0 : j = 0 := by omega
    subst i1 j0
    have ex : x = b := by simpa using px.symm
    have ey : y = a := by simpa using py.symm
    subst ex ey
    exact lt z hb prog w Ez Qz q
  · rcases List.mem_cons.mp hm with e | hm
    · rw [z1, z2] at e
      exact absurd e (Nat.ne_of_gt (Nat.lt_succ_self _))
    · rcases List.mem_cons.mp hm with e | hm
      · rw [z2] at e
        exact absurd e (Nat.ne_of_gt (Nat.lt_add_of_pos_right (by decide)))
      · cases hm
  · obtain ⟨h1, h2⟩ := old c o e
    exact ⟨fun hm => h1 (List.mem_singleton.mp hm), h2⟩
  · exact Heap.get?_push_of_some _ (sub2 _ _ (sub1 _ _ e))
  · have hv : v = if k = true then b else a := by
      have hp : (#[a, b] : Array Value)[argBest (fun i j => k) 1]? = some v := pv
      cases k with
      | true =>
        have e : argBest (fun i j => true) 1 = 1 := rfl
        rw [e] at hp
        simpa using hp.symm
      | false =>
        have e : argBest (fun i j => false) 1 = 0 := rfl
        rw [e] at hp
        simpa using hp.symm
    rw [hv]
    refine h g tk fun c o e => ?_
    obtain ⟨h1, h2⟩ := old c o e
    exact kp c o (fun hm => h1 (List.mem_singleton.mp hm)) h2 (Heap.get?_push_of_some _ (sub2 _ _ (sub1 _ _ e)))
end
end RsM
namespace Rs
open PySem PySem.Spec PyProof.Rows L2
def cutD (c : Int × List Int) : PyData := .tuple [.int c.1, .list (c.2.map PyData.int)]
theorem alike_ints : ∀ xs ys : List Int, PySem.W.alikeAll (xs.map PyData.int) (ys.map PyData.int) = true
  | [], ys => by cases ys <;> rfl
  | x :: xs, [] => rfl
  | x :: xs, y :: ys => by
    show (true && PySem.W.alikeAll (xs.map PyData.int) (ys.map PyData.int)) = true
    rw [alike_ints xs ys]
    rfl
theorem cut_alike (a b : Int × List Int) : PySem.W.alike (cutD a) (cutD b) = true := by
  show (true && (PySem.W.alikeAll (a.2.map PyData.int) (b.2.map PyData.int) && true)) = true
  rw [alike_ints]
  rfl
theorem cut_lt (a b : Int × List Int) : (PySem.W.dataLt (cutD a) (cutD b) = true → a.1 ≤ b.1) ∧ (PySem.W.dataLt (cutD a) (cutD b) = false → b.1 ≤ a.1) := by
  by_cases e : a.1 = b.1
  · exact ⟨fun _ => by omega, fun _ => by omega⟩
  · have n : PyData.eqv (.int a.1) (.int b.1) = false := by
      show (a.1 == b.1) = false
      simpa using e
    have q : PySem.W.dataLt (cutD a) (cutD b) = decide (a.1 < b.1) := by
      unfold cutD
      rw [PySem.W.dataLt_tuple, PySem.W.dataLt_all_no rfl n, PySem.W.dataLt_int]
    rw [q]
    exact ⟨fun h => by have := of_decide_eq_true h; omega, fun h => by have := of_decide_eq_false h; omega⟩
theorem depth_ints : ∀ xs : List Int, PyData.depthAll (xs.map PyData.int) ≤ 1
  | [] => by simp [PyData.depthAll]
  | x :: xs => by
    have := depth_ints xs
    simp only [List.map_cons, PyData.depthAll, PyData.depth]
    omega
theorem cut_depth (a : Int × List Int) : (cutD a).depth ≤ 4 := by
  have := depth_ints a.2
  simp only [cutD, PyData.depth, PyData.depthAll]
  omega
def rLtCut (K : PySem.W.Frag) : R2 := fun x y H Q => ∃ c e : Int × List Int, Dp K H x (cutD c) ∧ Dp K H y (cutD e) ∧ ∀ b : Bool, (b = true → c.1 ≤ e.1) → (b = false → e.1 ≤ c.1) → Q (.bl b) H
def rMinCut (K : PySem.W.Frag) : List V → Hp → VK → Prop := fun vs H Q => ∃ (x y : V) (c e : Int × List Int), vs = [x, y] ∧ Dp K H x (cutD c) ∧ Dp K H y (cutD e) ∧ (c.1 ≤ e.1 → Q x H) ∧ (e.1 ≤ c.1 → Q y H)
section
variable {X : Cx}
theorem op_ltCut (hu : X.A.units + 64 < cLine) : OpR X (compareOp .Lt) (rLtCut X.K) := by
  intro pins s σ H x y v u Q I rx ry h
  obtain ⟨c, e, hc, he, q⟩ := h
  obtain ⟨as, r1⟩ := Dp.reads I _ x v hc rx
  obtain ⟨bs, r2⟩ := Dp.reads I _ y u he ry
  have d1 := cut_depth c
  have d2 := cut_depth e
  have R := PySem.W.rcLt_alike (cutD c) (cutD e) X.A s v u as bs r1 r2 (cut_alike c e) (by intro z; cases z) (by omega)
  have z : wpAny (model X.prog X.w) X.A (compareOp .Lt v u) (EP X pins σ Q) X.xe s := R X.prog X.w X.xe (EP X pins σ Q) ⟨.bl _, H, I, rfl, q _ (cut_lt c e).1 (cut_lt c e).2⟩
  exact z
theorem call_minCut (hu : X.A.units + 64 < cLine) (hc : X.calm = true) : CallR X (.builtin "min") (rMinCut X.K) := by
  intro pins s σ H xs us Q I r h
  obtain ⟨x, y, c, e, rfl, h1, h2, q1, q2⟩ := h
  obtain ⟨u, w', rfl, rx, ry⟩ := vals2 r
  obtain ⟨as, r1⟩ := Dp.reads I _ x u h1 rx
  obtain ⟨bs, r2⟩ := Dp.reads I _ y w' h2 ry
  have d1 := cut_depth c
  have d2 := cut_depth e
  refine RsM.call_min_at (I.ok.hd hc) (k := PySem.W.dataLt (cutD e) (cutD c)) (fun z kz => PySem.W.rcLt_alike (cutD e) (cutD c) X.A.in1 z w' u bs as (Reads.keeps kz r2) (Reads.keeps kz r1) (cut_alike e c) (by intro z; cases z) ?_) fun g tk kg => ?_
  · show X.A.units + 1 + _ < cLine
    omega
  · have I2 : Inv X pins σ H { s with heap := g, toks := tk } := I.kept kg
    have l := cut_lt e c
    cases hb : PySem.W.dataLt (cutD e) (cutD c) with
    | true => exact ⟨y, H, I2, ry, q2 (l.1 hb)⟩
    | false => exact ⟨x, H, I2, rx, q1 (l.2 hb)⟩
end
end Rs

namespace Rs
open PySem PySem.Spec PyProof.Rows L2
section
variable {α β : Type} {R : Rel α} {S : Rel β} {H1 H' H4 : Hp} {D : Addr} {dn : List β} {y : V} {b : β}
def PvL (S : Rel β) (H1 : Hp) (D : Addr) (dn : List β) (H' : Hp) : Prop := Lst S H' D dn ∧ Same H1 H'
theorem lcStart (hD : H1 D = none) : PvL S H1 D [] (upd H1 D (.lst [])) := ⟨⟨[], upd_same, .nil⟩, Rs.Same.new hD⟩
theorem lcPut (st : Stable S) (hD : H1 D = none) (P : PvL S H1 D dn H') (s : Same H' H4) (hy : S H4 y b) (hl : dn.length < 100000) : ∃ acc, H4 D = some (.lst acc) ∧ acc.length < sizeLine ∧ PvL S H1 D (dn ++ [b]) (upd H4 D (.lst (acc ++ [y]))) := by
  obtain ⟨⟨vs, e, p⟩, s1⟩ := P
  have l := p.length
  have e4 := s _ _ e
  have t : TupLe H4 (upd H4 D (.lst (vs ++ [y]))) := (TupLe.refl H4).list e4
  exact ⟨vs, e4, szlt (by omega), ⟨_, upd_same, P2.app (Paired.tl st ((TupLe.same s).trans t) p) (P2.one (st _ _ _ _ t hy))⟩, Rs.Same.mut (s1.trans s) hD⟩
theorem lcSkip (st : Stable S) (P : PvL S H1 D dn H') (s : Same H' H4) : PvL S H1 D dn H4 := ⟨P.1.same st s, P.2.trans s⟩
theorem take_fm {f : α → Option β} {xs : List α} {j : Nat} {x : α} (h : xs[j]? = some x) : (xs.take (j + 1)).filterMap f = (xs.take j).filterMap f ++ (f x).toList := by
  rw [List.take_succ, h, List.filterMap_append]
  cases hf : f x <;> simp [List.filterMap_cons, hf]
theorem range_fm {f : Nat → Option β} {j : Nat} : (List.range (j + 1)).filterMap f = (List.range j).filterMap f ++ (f j).toList := by
  rw [List.range_succ, List.filterMap_append]
  cases hf : f j <;> simp [List.filterMap_cons, hf]
theorem lcm_list {K : PySem.W.Frag} {a : Addr} {vs : List V} {xs : List α} {g : TG} {tt : TT} {te : TE} {ws : List Nat} {σ : L2.St} {Qd : Hp → Prop} (f : α → Option β) (st : Stable S) (ha : H1 a = some (.lst vs)) (p : Paired (R H1) vs xs) (hD : H1 D = none)
    (turn : ∀ (j : Nat) (v : V) (x : α) (H' : Hp), xs[j]? = some x → vs[j]? = some v → R H1 v x → Same H1 H' → (∀ H4, Same H' H4 → f x = none → PvL S H1 D ((xs.take (j + 1)).filterMap f) H4) → (∀ H4 y b, Same H' H4 → f x = some b → S H4 y b → ∃ acc, H4 D = some (.lst acc) ∧ acc.length < sizeLine ∧ PvL S H1 D ((xs.take (j + 1)).filterMap f) (upd H4 D (.lst (acc ++ [y])))) →
      g v (wipe σ ws) H' fun σ2 H2 => wipe σ2 ws = wipe σ ws ∧ tt σ2 H2 fun b H3 => if b = true then te σ2 H3 fun y H4 => ∃ acc, H4 D = some (.lst acc) ∧ acc.length < sizeLine ∧ PvL S H1 D ((xs.take (j + 1)).filterMap f) (upd H4 D (.lst (acc ++ [y]))) else PvL S H1 D ((xs.take (j + 1)).filterMap f) H3)
    (hl : xs.length < 100000) (done : ∀ H', Lst S H' D (xs.filterMap f) → Same H1 H' → Qd H') :
    ∃ W : Nat → Nat → Hp → Prop, (∃ m, W 0 m (upd H1 D (.lst []))) ∧ ∀ i m H, W i m H →
      ((Itl K a).stop i H ∧ Qd H) ∨ ((Itl K a).go i H ∧ ∃ Nx : Hp → Prop, (∀ H', Nx H' → ∃ m', m' < m ∧ W (i + 1) m' H') ∧ ∀ x H', (Itl K a).yld i H x H' → g x (wipe σ ws) H' fun σ2 H2 => wipe σ2 ws = wipe σ ws ∧ tt σ2 H2 fun b H3 =>
        if b = true then te σ2 H3 fun y H4 => ∃ acc, H4 D = some (.lst acc) ∧ acc.length < sizeLine ∧ Nx (upd H4 D (.lst (acc ++ [y]))) else Nx H3) := by
  have lp := p.length
  refine lc_list (K := K) (a := a) (xs := vs) (fun j H' => PvL S H1 D ((xs.take j).filterMap f) H') (lcStart hD) ?_ ?_ ?_
  · rintro j H' _ ⟨_, s⟩
    exact SqL.of (s _ _ ha)
  · rintro j v H' hj P
    obtain ⟨x, hx, r⟩ := P2.get p hj
    have hb : ((xs.take j).filterMap f).length < 100000 := by
      have := List.length_filterMap_le f (xs.take j)
      rw [List.length_take] at this
      omega
    refine turn j v x H' hx hj r P.2 (fun H4 s hf => ?_) (fun H4 y b s hf hy => ?_)
    · rw [take_fm hx, hf, Option.toList_none, List.append_nil]
      exact lcSkip st P s
    · rw [take_fm hx, hf]
      exact lcPut st hD P s hy hb
  · rintro H' ⟨L, s⟩
    rw [List.take_of_length_le (by omega)] at L
    exact done H' L s
theorem lcm_range {lo : Int} {n : Nat} {g : TG} {tt : TT} {te : TE} {ws : List Nat} {σ : L2.St} {Qd : Hp → Prop} (f : Nat → Option β) (st : Stable S) (hD : H1 D = none) (hn : n < 100000)
    (turn : ∀ (j : Nat) (H' : Hp), j < n → Same H1 H' → (∀ H4, Same H' H4 → f j = none → PvL S H1 D ((List.range (j + 1)).filterMap f) H4) → (∀ H4 y b, Same H' H4 → f j = some b → S H4 y b → ∃ acc, H4 D = some (.lst acc) ∧ acc.length < sizeLine ∧ PvL S H1 D ((List.range (j + 1)).filterMap f) (upd H4 D (.lst (acc ++ [y])))) →
      g (.int (lo + j)) (wipe σ ws) H' fun σ2 H2 => wipe σ2 ws = wipe σ ws ∧ tt σ2 H2 fun b H3 => if b = true then te σ2 H3 fun y H4 => ∃ acc, H4 D = some (.lst acc) ∧ acc.length < sizeLine ∧ PvL S H1 D ((List.range (j + 1)).filterMap f) (upd H4 D (.lst (acc ++ [y]))) else PvL S H1 D ((List.range (j + 1)).filterMap f) H3)
    (done : ∀ H', Lst S H' D ((List.range n).filterMap f) → Same H1 H' → Qd H') :
    ∃ W : Nat → Nat → Hp → Prop, (∃ m, W 0 m (upd H1 D (.lst []))) ∧ ∀ i m H, W i m H →
      ((Itr lo n).stop i H ∧ Qd H) ∨ ((Itr lo n).go i H ∧ ∃ Nx : Hp → Prop, (∀ H', Nx H' → ∃ m', m' < m ∧ W (i + 1) m' H') ∧ ∀ x H', (Itr lo n).yld i H x H' → g x (wipe σ ws) H' fun σ2 H2 => wipe σ2 ws = wipe σ ws ∧ tt σ2 H2 fun b H3 =>
        if b = true then te σ2 H3 fun y H4 => ∃ acc, H4 D = some (.lst acc) ∧ acc.length < sizeLine ∧ Nx (upd H4 D (.lst (acc ++ [y]))) else Nx H3) := by
  refine lc_range (fun j H' => PvL S H1 D ((List.range j).filterMap f) H') (lcStart hD) ?_ ?_
  · rintro j H' hj P
    have hb : ((List.range j).filterMap f).length < 100000 := by
      have := List.length_filterMap_le f (List.range j)
      rw [List.length_range] at this
      omega
    refine turn j H' hj P.2 (fun H4 s hf => ?_) (fun H4 y b s hf hy => ?_)
    · rw [range_fm, hf, Option.toList_none, List.append_nil]
      exact lcSkip st P s
    · rw [range_fm, hf]
      exact lcPut st hD P s hy hb
  · rintro H' ⟨L, s⟩
    exact done H' L s
end
theorem ints_paired {H : Hp} : ∀ ns : List Int, Paired (IntAt H) (ns.map V.int) ns
  | [] => .nil
  | n :: ns => .cons rfl (ints_paired ns)
theorem paired_ints {H : Hp} : ∀ {vs : List V} {ns : List Int}, Paired (IntAt H) vs ns → vs = ns.map V.int
  | _, _, .nil => rfl
  | _, _, .cons h t => by rw [List.map_cons, ← paired_ints t]; congr 1
theorem Lst.ints {H : Hp} {l : Addr} {ns : List Int} : Lst IntAt H l ns ↔ H l = some (.lst (ns.map V.int)) := ⟨fun ⟨vs, e, p⟩ => by rw [← paired_ints p]; exact e, fun e => ⟨_, e, ints_paired ns⟩⟩
def IIAt : Rel (Int × Int) := fun H v p => IsTp H v [.int p.1, .int p.2]
theorem IIAt.st : Stable IIAt := fun _ _ _ _ t h => IsTp.mono t h
theorem fm_some {α β : Type} {f : α → β} : ∀ {xs : List α}, xs.filterMap (fun x => some (f x)) = xs.map f
  | [] => rfl
  | x :: xs => by rw [List.filterMap_cons, List.map_cons, fm_some]
inductive Pl where
  | leaf (n : Int)
  | node (ps : List Pl)
instance : Inhabited Pl := ⟨.leaf 0⟩
mutual
def Pl.runs : Pl → List Int
  | .leaf n => [n]
  | .node ps => Pl.runsL ps
def Pl.runsL : List Pl → List Int
  | [] => []
  | p :: ps => p.runs ++ Pl.runsL ps
end
mutual
def Pl.fits (w : Nat) : Pl → Bool
  | .leaf _ => true
  | .node ps => (decide (2 ≤ ps.length) && decide (ps.length ≤ w)) && Pl.fitsL w ps
def Pl.fitsL (w : Nat) : List Pl → Bool
  | [] => true
  | p :: ps => p.fits w && Pl.fitsL w ps
end
mutual
def Pl.depth : Pl → Nat
  | .leaf _ => 0
  | .node ps => Pl.depthL ps + 1
def Pl.depthL : List Pl → Nat
  | [] => 0
  | p :: ps => max p.depth (Pl.depthL ps)
end
mutual
inductive PlAt (H : Hp) : V → Pl → Prop
  | leaf (n : Int) : PlAt H (.int n) (.leaf n)
  | node {a : Addr} {vs : List V} {ps : List Pl} : H a = some (.tup vs) → PlAll H vs ps → PlAt H (.ref a) (.node ps)
inductive PlAll (H : Hp) : List V → List Pl → Prop
  | nil : PlAll H [] []
  | cons {v : V} {p : Pl} {vs : List V} {ps : List Pl} : PlAt H v p → PlAll H vs ps → PlAll H (v :: vs) (p :: ps)
end
mutual
theorem PlAt.mono {H H' : Hp} (t : TupLe H H') : ∀ (p : Pl) (v : V), PlAt H v p → PlAt H' v p
  | .leaf n, _, h => by
    cases h
    exact .leaf n
  | .node ps, _, h => by
    cases h with
    | node e a => exact .node (t _ _ e) (PlAll.mono t ps _ a)
theorem PlAll.mono {H H' : Hp} (t : TupLe H H') : ∀ (ps : List Pl) (vs : List V), PlAll H vs ps → PlAll H' vs ps
  | [], _, h => by
    cases h
    exact .nil
  | p :: ps, _, h => by
    cases h with
    | cons a b => exact .cons (PlAt.mono t p _ a) (PlAll.mono t ps _ b)
end
def PlR : Rel Pl := PlAt
theorem PlR.st : Stable PlR := fun _ _ v p t h => PlAt.mono t p v h
theorem PlAll.of {H : Hp} : ∀ {vs : List V} {ps : List Pl}, Paired (PlR H) vs ps → PlAll H vs ps
  | _, _, .nil => .nil
  | _, _, .cons a b => .cons a (PlAll.of b)
theorem PlAll.to {H : Hp} : ∀ {vs : List V} {ps : List Pl}, PlAll H vs ps → Paired (PlR H) vs ps
  | _, _, .nil => .nil
  | _, _, .cons a b => .cons a (PlAll.to b)
theorem PlR.node {H : Hp} {a : Addr} {vs : List V} {ps : List Pl} (e : H a = some (.tup vs)) (p : Paired (PlR H) vs ps) : PlR H (.ref a) (.node ps) := PlAt.node e (PlAll.of p)
theorem PlR.unnode {H : Hp} {v : V} {ps : List Pl} (h : PlR H v (.node ps)) : ∃ a vs, v = .ref a ∧ H a = some (.tup vs) ∧ Paired (PlR H) vs ps := by
  cases h with
  | node e a => exact ⟨_, _, rfl, e, PlAll.to a⟩
theorem PlR.unleaf {H : Hp} {v : V} {n : Int} (h : PlR H v (.leaf n)) : v = .int n := by
  cases h
  rfl
theorem Pl.runsL_map (ps : List Pl) : Pl.runsL ps = (ps.map Pl.runs).flatten := by
  induction ps with
  | nil => rfl
  | cons p ps ih => rw [Pl.runsL, ih, List.map_cons, List.flatten_cons]
theorem Pl.fitsL_all {w : Nat} (ps : List Pl) : Pl.fitsL w ps = ps.all fun p => p.fits w := by
  induction ps with
  | nil => rfl
  | cons p ps ih => rw [Pl.fitsL, ih, List.all_cons]
theorem Pl.depthL_le {ps : List Pl} {p : Pl} (h : p ∈ ps) : p.depth ≤ Pl.depthL ps := by
  induction ps with
  | nil => simp at h
  | cons q ps ih =>
    rw [Pl.depthL]
    rcases List.mem_cons.mp h with e | e
    · rw [e]; omega
    · have := ih e; omega
mutual
theorem Pl.deep {w : Nat} : ∀ (p : Pl), p.fits w = true → p.depth + 1 ≤ p.runs.length
  | .leaf n, _ => by simp [Pl.depth, Pl.runs]
  | .node ps, h => by
    rw [Pl.fits] at h
    simp only [Bool.and_eq_true, decide_eq_true_eq] at h
    have := Pl.deepL ps h.2
    rw [Pl.depth, Pl.runs]
    omega
theorem Pl.deepL {w : Nat} : ∀ (ps : List Pl), Pl.fitsL w ps = true → Pl.depthL ps + ps.length ≤ (Pl.runsL ps).length
  | [], _ => by simp [Pl.depthL, Pl.runsL]
  | p :: ps, h => by
    rw [Pl.fitsL] at h
    simp only [Bool.and_eq_true] at h
    have a := Pl.deep p h.1
    have b := Pl.deepL ps h.2
    rw [Pl.depthL, Pl.runsL, List.length_append, List.length_cons]
    omega
end
def LeL (x y : Int × Int) : Prop := SrtO.lexB y x = false
theorem LeL.iff {x y : Int × Int} : LeL x y ↔ (x.1 < y.1 ∨ (x.1 = y.1 ∧ x.2 ≤ y.2)) := by
  unfold LeL
  rw [SrtO.lexB_no]
  omega
theorem srtL_one : ∀ {xs ys : List (Int × Int)}, xs.Perm ys → xs.Pairwise LeL → ys.Pairwise LeL → xs = ys
  | [], ys, p, _, _ => p.nil_eq
  | x :: xs, [], p, _, _ => absurd p.symm.nil_eq (by simp)
  | x :: xs, y :: ys, p, a, b => by
    have e : x = y := by
      have hx : x ∈ y :: ys := p.mem_iff.mp (List.mem_cons_self ..)
      have hy : y ∈ x :: xs := p.mem_iff.mpr (List.mem_cons_self ..)
      rcases List.mem_cons.mp hx with h | h
      · exact h
      · rcases List.mem_cons.mp hy with h' | h'
        · exact h'.symm
        · have b1 := LeL.iff.mp (List.rel_of_pairwise_cons b h)
          have a1 := LeL.iff.mp (List.rel_of_pairwise_cons a h')
          exact Prod.ext (by omega) (by omega)
    subst e
    rw [srtL_one p.cons_inv (List.Pairwise.of_cons a) (List.Pairwise.of_cons b)]
def hm (left w : Nat) : Nat := 2 + (left - 2) % (w - 1)
theorem hm_le {left w : Nat} (h : 2 ≤ left) (hw : 2 ≤ w) : 2 ≤ hm left w ∧ hm left w ≤ left ∧ hm left w ≤ w := by
  unfold hm
  have a := Nat.mod_le (left - 2) (w - 1)
  have b := Nat.mod_lt (left - 2) (by omega : 0 < w - 1)
  omega
end Rs

namespace Rs
open PySem PySem.Spec PyProof.Rows L2
abbrev N_need_lengths : List Str := ["lengths", "length"]
abbrev P_need_lengths : List Str := ["lengths"]
structure GoodLens (ls : List Int) : Prop where
  pos : 1 ≤ ls.length
  le : ls.length ≤ 40
  all : ∀ x ∈ ls, 1 ≤ x ∧ x ≤ 1000000
def sp_need_lengths (K : PySem.W.Frag) : Sp := fun vs H Q E => match vs with
  | [lv] => ∃ l ls, lv = .ref l ∧ H l = some (.lst (ls.map V.int)) ∧ GoodLens ls ∧ ∀ H', Same H H' → Q .non H'
  | _ => False
def t_need_lengths (K : PySem.W.Frag) (E : XK) : TS := (tSeq (tIfS (tNot (tTest (tChain xLe xLe (tC (.int 1)) (tCB1 (xLen K) (tVar 0)) (tC (.int 40))))) tNever tNext)
  (tIfS (tTest (tOp (xNeE K) (tLc (iList K (tVar 0)) (gName 1) (tNot (tTest (tChain xLe xLe (tC (.int 1)) (tVar 1) (tC (.int 1000000))))) (tVar 1) [1]) (tLst tNil))) tNever tNext))
theorem pure_need_lengths {K : PySem.W.Frag} : ∀ vs H Q E, sp_need_lengths K vs H Q E → t_need_lengths K E { nx := fun _ H' => Q .non H', rt := Q } (start N_need_lengths vs) H := by
  intro vs H Q E h
  match vs, h with
  | [lv], h =>
    obtain ⟨l, ls, rfl, hl, g, k⟩ := h
    have g1 := g.pos
    have g4 := g.le
    refine ⟨_, rfl, lenL hl rfl ⟨_, _, rfl, rfl, _, rfl, ?_⟩⟩
    rw [List.length_map, decide_eq_true (show (1 : Int) ≤ (ls.length : Int) by omega)]
    refine ⟨_, _, rfl, rfl, _, rfl, ?_⟩
    rw [decide_eq_true (show (ls.length : Int) ≤ 40 by omega)]
    refine ⟨_, rfl, l, rfl, ⟨_, SqL.of hl⟩, fun D hD => ?_⟩
    refine lcm_list (S := IntAt) (fun _ => none) IntAt.st hl (ints_paired ls) hD ?_ (by omega) ?_
    · intro j v x H' hx hj r s skip put
      have e : v = .int x := r
      subst e
      have gx := g.all x (List.mem_of_getElem? hx)
      refine ⟨rfl, _, rfl, _, _, rfl, rfl, _, rfl, ?_⟩
      rw [decide_eq_true gx.1]
      refine ⟨_, _, rfl, rfl, _, rfl, ?_⟩
      rw [decide_eq_true gx.2]
      exact skip H' (Same.refl _) rfl
    · intro H2 L s
      obtain ⟨vs, e, p⟩ := L
      have el : vs.length = 0 := by rw [p.length]; simp
      refine ⟨sz0, fun q hq => neE e hq (b := false) (by rw [List.eq_nil_of_length_eq_zero el]; rfl) ⟨_, rfl, ?_⟩⟩
      exact k _ (s.trans (Rs.Same.new hq))
abbrev N_need_ways : List Str := ["ways"]
abbrev P_need_ways : List Str := ["ways"]
def sp_need_ways (K : PySem.W.Frag) : Sp := fun vs H Q E => match vs with
  | [wv] => ∃ w, wv = .int w ∧ 2 ≤ w ∧ w ≤ 6 ∧ ∀ H', Same H H' → Q .non H'
  | _ => False
def t_need_ways (K : PySem.W.Frag) (E : XK) : TS := (tIfS (tNot (tTest (tChain xLe xLe (tC (.int 2)) (tVar 0) (tC (.int 6))))) tNever tNext)
theorem pure_need_ways {K : PySem.W.Frag} : ∀ vs H Q E, sp_need_ways K vs H Q E → t_need_ways K E { nx := fun _ H' => Q .non H', rt := Q } (start N_need_ways vs) H := by
  intro vs H Q E h
  match vs, h with
  | [wv], h =>
    obtain ⟨w, rfl, h1, h2, k⟩ := h
    refine ⟨_, rfl, _, _, rfl, rfl, _, rfl, ?_⟩
    rw [decide_eq_true h1]
    refine ⟨_, _, rfl, rfl, _, rfl, ?_⟩
    rw [decide_eq_true h2]
    exact k _ (Same.refl H)
def pairI (H : Hp) : V → Int × Int
  | .ref t => match H t with
    | some (.tup [.int a, .int b]) => (a, b)
    | _ => (0, 0)
  | _ => (0, 0)
theorem pairI_of {H : Hp} {v : V} {p : Int × Int} (h : IIAt H v p) : pairI H v = p := by
  obtain ⟨a, rfl, e⟩ := h
  show (match H a with
    | some (.tup [.int a, .int b]) => (a, b)
    | _ => (0, 0)) = p
  rw [e]
end Rs

namespace Rs
open PySem PySem.Spec PyProof.Rows L2
def rows0 (ls : List Int) : List (Int × Int) := (List.range ls.length).map fun (i : Nat) => (ls.getD i 0, (i : Int))
def plans0 (n : Nat) : List (Int × Pl) := (List.range n).map fun (i : Nat) => ((i : Int), Pl.leaf (i : Int))
structure CInv (n : Nat) (rows : List (Int × Int)) (plans : List (Int × Pl)) : Prop where
  names : ∀ r ∈ rows, ∃ q ∈ plans, q.1 = r.2
  lt : ∀ q ∈ plans, q.1 < (n : Int) + plans.length
  nd : (rows.map (·.2)).Nodup
def PKv (H : Hp) : List (Key × V) → List (Int × Pl) → Prop := Paired fun kv q => kv.1 = Sum.inl q.1 ∧ PlR H kv.2 q.2
theorem PKv.mono {H H' : Hp} (t : TupLe H H') {kvs : List (Key × V)} {plans : List (Int × Pl)} (h : PKv H kvs plans) : PKv H' kvs plans := P2.mono (fun _ _ ⟨a, b⟩ => ⟨a, PlR.st _ _ _ _ t b⟩) h
theorem mergeK_app : ∀ (more kvs : List (Key × V)), (more.map (·.1)).Nodup → (∀ p ∈ more, valV kvs p.1 = none) → mergeK kvs more = kvs ++ more
  | [], kvs, _, _ => by simp [mergeK]
  | p :: more, kvs, nd, h => by
    rw [List.map_cons, List.nodup_cons] at nd
    have e : mergeK kvs (p :: more) = mergeK (putK kvs p.1 p.2) more := rfl
    rw [e, putK_new _ (h p (List.mem_cons_self ..)), mergeK_app more _ nd.2 fun q hq => ?_]
    · simp
    · rw [valV_snoc _ _ _ _ (h p (List.mem_cons_self ..)), if_neg (fun z => nd.1 (by rw [← z]; exact List.mem_map_of_mem hq))]
      exact h q (List.mem_cons_of_mem _ hq)
end Rs

namespace Rs
open PySem PySem.Spec PyProof.Rows L2
def cutSum (c : Int → Int → Int) : Int → List Int → Int
  | _, [] => 0
  | b, p :: ps => c b p + cutSum c p ps
def Asc : Int → List Int → Int → Prop
  | b, [], t => b = t
  | b, p :: ps, t => b < p ∧ Asc p ps t
theorem asc_le : ∀ {ps : List Int} {b t : Int}, Asc b ps t → b + ps.length ≤ t
  | [], b, t, h => by simp [Asc] at h; simp; omega
  | p :: ps, b, t, h => by
    have := asc_le h.2
    have := h.1
    rw [List.length_cons]
    omega
theorem asc_snoc : ∀ {ps : List Int} {b h t : Int}, Asc b ps h → h < t → Asc b (ps ++ [t]) t
  | [], b, h, t, a, l => by
    have a : b = h := a
    exact ⟨by omega, rfl⟩
  | p :: ps, b, h, t, a, l => ⟨a.1, asc_snoc a.2 l⟩
theorem asc_last : ∀ {qs : List Int} {b t : Int}, Asc b qs t → qs ≠ [] → ∃ ps h, qs = ps ++ [t] ∧ Asc b ps h ∧ h < t
  | [], b, t, _, n => absurd rfl n
  | [p], b, t, a, _ => by
    obtain ⟨a1, a2⟩ := a
    have a2 : p = t := a2
    exact ⟨[], b, by rw [a2]; rfl, rfl, by omega⟩
  | p :: q :: qs, b, t, a, _ => by
    obtain ⟨ps, h, e, a', l⟩ := asc_last (qs := q :: qs) a.2 (by simp)
    exact ⟨p :: ps, h, by rw [e]; rfl, ⟨a.1, a'⟩, l⟩
theorem cut_snoc {c : Int → Int → Int} : ∀ {ps : List Int} {b h t : Int}, Asc b ps h → cutSum c b (ps ++ [t]) = cutSum c b ps + c h t
  | [], b, h, t, a => by
    have a : b = h := a
    subst a
    simp [cutSum]
  | p :: ps, b, h, t, a => by
    show c b p + cutSum c p (ps ++ [t]) = c b p + cutSum c p ps + c h t
    rw [cut_snoc a.2]
    omega
structure BestCut (c : Int → Int → Int) (b e : Int) (w : Nat) (s : Int) (ps : List Int) : Prop where
  asc : Asc b ps e
  two : 2 ≤ ps.length
  le : ps.length ≤ w
  sum : s = cutSum c b ps
  min : ∀ qs, Asc b qs e → 2 ≤ qs.length → qs.length ≤ w → s ≤ cutSum c b qs
def TL (H H' : Hp) : Prop := (∀ a xs, H a = some (.tup xs) → H' a = some (.tup xs)) ∧ ∀ a xs, H a = some (.lst xs) → H' a = some (.lst xs)
theorem TL.refl (H : Hp) : TL H H := ⟨fun _ _ h => h, fun _ _ h => h⟩
theorem TL.trans {H H1 H2 : Hp} (a : TL H H1) (b : TL H1 H2) : TL H H2 := ⟨fun c xs h => b.1 c xs (a.1 c xs h), fun c xs h => b.2 c xs (a.2 c xs h)⟩
theorem TL.same {H H' : Hp} (s : Same H H') : TL H H' := ⟨fun c xs h => s c _ h, fun c xs h => s c _ h⟩
theorem TL.put {H : Hp} {a : Addr} {o u : HO} (h : H a = some u) (h1 : ∀ xs, u ≠ .tup xs) (h2 : ∀ xs, u ≠ .lst xs) : TL H (upd H a o) :=
  ⟨fun c xs e => by rw [upd_ne (fun z => by rw [z, h] at e; exact h1 xs (Option.some.inj e))]; exact e, fun c xs e => by rw [upd_ne (fun z => by rw [z, h] at e; exact h2 xs (Option.some.inj e))]; exact e⟩
theorem TL.dk {H : Hp} {a : Addr} {o : HO} {kvs : List (Key × V)} (h : H a = some (.dK kvs)) : TL H (upd H a o) := TL.put h (fun _ z => by cases z) (fun _ z => by cases z)
theorem TL.fz {H : Hp} {a : Addr} {o : HO} {od : Obj} {u : HO} (h : H a = some (.frz od u)) : TL H (upd H a o) := TL.put h (fun _ z => by cases z) (fun _ z => by cases z)
abbrev Cut := Int × List Int
def CutAt (H : Hp) (v : V) (q : Cut) : Prop := ∃ a l, v = .ref a ∧ H a = some (.tup [.int q.1, .ref l]) ∧ H l = some (.lst (q.2.map V.int))
theorem CutAt.tl {H H' : Hp} {v : V} {q : Cut} (t : TL H H') (h : CutAt H v q) : CutAt H' v q := let ⟨a, l, e, h1, h2⟩ := h; ⟨a, l, e, t.1 _ _ h1, t.2 _ _ h2⟩
theorem map_int_inj : ∀ {a b : List Int}, a.map V.int = b.map V.int → a = b
  | [], [], _ => rfl
  | [], _ :: _, h => by simp at h
  | _ :: _, [], h => by simp at h
  | x :: a, y :: b, h => by
    rw [List.map_cons, List.map_cons] at h
    injection h with h1 h2
    injection h1 with h1
    rw [h1, map_int_inj h2]
theorem CutAt.uniq {H : Hp} {v : V} {q r : Cut} (h : CutAt H v q) (k : CutAt H v r) : q = r := by
  obtain ⟨a, l, rfl, h1, h2⟩ := h
  obtain ⟨a', l', e, k1, k2⟩ := k
  injection e with e
  subst e
  rw [h1] at k1
  injection k1 with k1
  injection k1 with k1
  injection k1 with k1 k3
  injection k1 with k1
  injection k3 with k3
  injection k3 with k3
  subst k3
  rw [h2] at k2
  injection k2 with k2
  injection k2 with k2
  exact Prod.ext k1 (map_int_inj k2)
theorem CutAt.dp {K : PySem.W.Frag} {H : Hp} {v : V} {q : Cut} (h : CutAt H v q) : Dp K H v (cutD q) := by
  obtain ⟨a, l, rfl, h1, h2⟩ := h
  have hints : ∀ ns : List Int, DpAll K H (ns.map V.int) (ns.map PyData.int) := fun ns => by
    induction ns with
    | nil => exact .nil
    | cons x xs ih => exact .cons (.int x) ih
  exact .tup (SqT.of h1) (.cons (.int _) (.cons (.lst (SqL.of h2) (hints _)) .nil))
theorem putK_keys {kvs : List (Key × V)} {k : Key} {v : V} : ((putK kvs k v).map (·.1)) = if (valV kvs k).isSome then kvs.map (·.1) else kvs.map (·.1) ++ [k] := by
  unfold putK
  rw [valV_any]
  cases (valV kvs k).isSome
  · simp
  · simp only [if_true, List.map_map]
    congr 1
    funext kv
    show (if kv.1 = k then (kv.1, v) else kv).1 = kv.1
    split <;> rfl
theorem valV_mem {kvs : List (Key × V)} {k : Key} {v : V} (h : valV kvs k = some v) : ∃ i : Nat, kvs[i]? = some (k, v) := by
  unfold valV at h
  obtain ⟨kv, h1, h2⟩ := Option.map_eq_some_iff.mp h
  obtain ⟨i, hi⟩ := List.mem_iff_getElem?.mp (List.mem_of_find?_eq_some h1)
  have := List.find?_some h1
  refine ⟨i, ?_⟩
  rw [hi]
  have e : kv.1 = k := by simpa using this
  rw [← e, ← h2]
theorem valV_of_mem {kvs : List (Key × V)} {k : Key} {v : V} (h : (k, v) ∈ kvs) : ∃ u, valV kvs k = some u := by
  cases e : valV kvs k with
  | some u => exact ⟨u, rfl⟩
  | none =>
    exfalso
    unfold valV at e
    rw [Option.map_eq_none_iff, List.find?_eq_none] at e
    have := e _ h
    simp at this
theorem keys_none {kvs : List (Key × V)} {k : Key} (h : valV kvs k = none) : k ∉ kvs.map (·.1) := fun hm => by
  obtain ⟨kv, hkv, e⟩ := List.mem_map.mp hm
  obtain ⟨u, hu⟩ := valV_of_mem (kvs := kvs) (k := k) (v := kv.2) (by rw [← e]; exact hkv)
  rw [h] at hu
  cases hu
theorem putK_nd {kvs : List (Key × V)} {k : Key} {v : V} (nd : (kvs.map (·.1)).Nodup) : ((putK kvs k v).map (·.1)).Nodup := by
  rw [putK_keys]
  cases e : valV kvs k with
  | some u => exact nd
  | none =>
    simp only [Option.isSome_none, Bool.false_eq_true, if_false]
    refine List.nodup_append.mpr ⟨nd, by simp, fun a ha b hb z => ?_⟩
    have hb : b = k := by simpa using hb
    rw [z, hb] at ha
    exact keys_none e ha
theorem keys_few {kvs : List (Key × V)} {b : Int} {n : Nat} (nd : (kvs.map (·.1)).Nodup) (h : ∀ k ∈ kvs.map (·.1), ∃ t : Int, k = Sum.inl t ∧ b ≤ t ∧ t ≤ b + n) : kvs.length ≤ n + 1 := by
  have sub : (kvs.map (·.1)) ⊆ (List.range (n + 1)).map fun (i : Nat) => (Sum.inl (b + (i : Int)) : Key) := fun k hk => by
    obtain ⟨t, e, h1, h2⟩ := h k hk
    refine List.mem_map.mpr ⟨(t - b).toNat, List.mem_range.mpr (by omega), ?_⟩
    rw [e]
    congr 1
    omega
  have := nd.length_le_of_subset sub
  simpa using this
theorem valV_drop {kvs : List (Key × V)} {k j : Key} : valV (dropK kvs k) j = if j = k then none else valV kvs j := by
  unfold valV dropK
  induction kvs with
  | nil => simp
  | cons kv kvs ih =>
    rw [List.filter_cons]
    by_cases e : kv.1 = k
    · rw [if_neg (by simp [e]), ih]
      by_cases ej : j = k
      · rw [if_pos ej, if_pos ej]
      · rw [if_neg ej, if_neg ej, List.find?_cons, decide_eq_false (by rw [e]; exact fun z => ej z.symm)]
    · rw [if_pos (by simp [e]), List.find?_cons]
      by_cases ej : kv.1 = j
      · rw [decide_eq_true ej, if_neg (by rw [← ej]; exact e), List.find?_cons, decide_eq_true ej]
      · rw [decide_eq_false ej, ih]
        by_cases ek : j = k
        · rw [if_pos ek, if_pos ek]
        · rw [if_neg ek, if_neg ek, List.find?_cons, decide_eq_false ej]
abbrev Costs := List ((Int × Int) × Int)
def kk (b e : Int) : List Key := [Sum.inl b, Sum.inl e]
def encC (cl : Costs) : List (List Key × V) := cl.map fun q => (kk q.1.1 q.1.2, V.int q.2)
def cLook (cl : Costs) (b e : Int) : Option Int := (cl.find? fun q => decide (q.1 = (b, e))).map (·.2)
def cOf (cl : Costs) (b e : Int) : Int := (cLook cl b e).getD 0
theorem kk_inj {a b c d : Int} (h : kk a b = kk c d) : a = c ∧ b = d := by
  unfold kk at h
  injection h with h1 h2
  injection h2 with h2 h3
  injection h1 with h1
  injection h2 with h2
  exact ⟨h1, h2⟩
theorem enc_val (cl : Costs) (b e : Int) : valV (encC cl) (kk b e) = (cLook cl b e).map V.int := by
  induction cl with
  | nil => rfl
  | cons q cl ih =>
    have e1 : encC (q :: cl) = (kk q.1.1 q.1.2, V.int q.2) :: encC cl := rfl
    rw [e1]
    unfold cLook
    rw [List.find?_cons]
    by_cases h : q.1 = (b, e)
    · rw [decide_eq_true h, valV_pos (by rw [h])]
      rfl
    · have hk : ¬ (kk q.1.1 q.1.2, V.int q.2).1 = kk b e := fun z => h (by
        obtain ⟨z1, z2⟩ := kk_inj z
        exact Prod.ext z1 z2)
      rw [decide_eq_false h, valV_neg hk, ih]
      rfl
theorem enc_getD (cl : Costs) (b e : Int) : (valV (encC cl) (kk b e)).getD (.int 0) = V.int (cOf cl b e) := by
  rw [enc_val]
  unfold cOf
  cases cLook cl b e <;> rfl
abbrev N_stretches : List Str := ["many", "found", "size", "begin"]
abbrev P_stretches : List Str := ["many"]
def stretchL (n : Nat) : List (Int × Int) := (List.range (n - 1)).flatMap fun (k : Nat) => (List.range (n - 1 - k)).map fun (b : Nat) => ((b : Int), (b : Int) + (2 + (k : Int)))
def sp_stretches (K : PySem.W.Frag) : Sp := fun vs H Q E => match vs with
  | [mv] => ∃ n : Nat, mv = .int (n : Int) ∧ n ≤ 40 ∧ ∀ l H', H l = none → Lst IIAt H' l (stretchL n) → Same H H' → Q (.ref l) H'
  | _ => False
def t_stretches (K : PySem.W.Frag) (E : XK) : TS := (tSeq (tAsg (tLst tNil) (gName 1))
  (tSeq (tFor (iRng2 (tConsC (.int 2) (tCons (tOpC xAdd (tVar 0) (.int 1)) tNil))) (gName 2) (tDrop (tBM K "list" rExtend (tVar 1) (tCons (tLc (iRng1 (tCons (tOpC xAdd (tOp xSub (tVar 0) (tVar 2)) (.int 1)) tNil)) (gName 3) tYes (tTup (tCons (tVar 3) (tCons (tOp xAdd (tVar 3) (tVar 2)) tNil))) [3]) tNil))))
   (tRet (tVar 1))))
theorem flat_le {n : Nat} (h : n ≤ 40) : ∀ k, k ≤ n - 1 → ((List.range k).flatMap fun (k : Nat) => (List.range (n - 1 - k)).map fun (b : Nat) => ((b : Int), (b : Int) + (2 + (k : Int)))).length ≤ 40 * k
  | 0, _ => by simp
  | k + 1, hk => by
    have ih := flat_le h k (by omega)
    rw [List.range_succ, List.flatMap_append, List.length_append]
    simp only [List.flatMap_cons, List.flatMap_nil, List.append_nil, List.length_map, List.length_range]
    omega
theorem pure_stretches {K : PySem.W.Frag} : ∀ vs H Q E, sp_stretches K vs H Q E → t_stretches K E { nx := fun _ H' => Q .non H', rt := Q } (start N_stretches vs) H := by
  intro vs H Q E h
  match vs, h with
  | [mv], h =>
    obtain ⟨n, rfl, hn, k⟩ := h
    refine ⟨sz0, fun f hf => ?_⟩
    refine ⟨_, rfl, _, _, rfl, rfl, _, _, rfl, ⟨by decide, by decide, by show _ ≤ (n : Int) + 1; omega, by show (n : Int) + 1 < _; omega⟩, ?_⟩
    have en : ((n : Int) + 1 - 2).toNat = n - 1 := by omega
    rw [en]
    refine for_range (lo := 2) (n := n - 1) (fun j σ H' => ∃ x2, σ = [some (.int (n : Int)), some (.ref f), x2, none] ∧ Lst IIAt H' f ((List.range j).flatMap fun (k : Nat) => (List.range (n - 1 - k)).map fun (b : Nat) => ((b : Int), (b : Int) + (2 + (k : Int)))) ∧ Same H H') ⟨none, rfl, ⟨[], upd_same, .nil⟩, Rs.Same.new hf⟩ ?_ ?_
    · rintro j σ H1 hj ⟨x2, rfl, ⟨fv, ef, pf⟩, s1⟩
      have lf := pf.length
      have fb := flat_le hn j (by omega)
      refine ⟨_, rfl, .inl ⟨rfl, _, SqL.of ef⟩, _, rfl, _, rfl, _, _, rfl, rfl, _, _, rfl, rfl, _, rfl, by show _ ≤ (n : Int) - (2 + (j : Int)) + 1; omega, by show (n : Int) - (2 + (j : Int)) + 1 < _; omega, fun D hD => ?_⟩
      have en2 : ((n : Int) - (2 + (j : Int)) + 1).toNat = n - 1 - j := by omega
      dsimp only
      rw [en2]
      refine lcm_range (lo := 0) (n := n - 1 - j) (S := IIAt) (fun (b : Nat) => some ((b : Int), (b : Int) + (2 + (j : Int)))) IIAt.st hD (by omega) ?_ ?_
      · intro b H' hb s skip put
        have eb : (0 + (b : Int)) = (b : Int) := by omega
        refine ⟨rfl, lc_yes ⟨_, rfl, _, rfl, _, rfl, _, _, rfl, rfl, szle (by show 2 ≤ 100000; decide), fun t ht => put _ _ _ (Rs.Same.new ht) rfl ⟨t, rfl, ?_⟩⟩⟩
        rw [upd_same, eb]
      · intro H2 L2 s2
        rw [fm_some] at L2
        obtain ⟨dv, ed, pd⟩ := L2
        have ld := pd.length
        rw [List.length_map, List.length_range] at ld
        have ef2 := s2 _ _ ef
        refine ⟨f, D, fv, dv, rfl, rfl, ef2, ed, szle (by omega), _, rfl, ⟨_, upd_same, ?_⟩, Rs.Same.mut (s1.trans s2) hf⟩
        have t : TupLe H2 (upd H2 f (.lst (fv ++ dv))) := (TupLe.refl _).list ef2
        rw [List.range_succ, List.flatMap_append]
        refine P2.app (Paired.tl IIAt.st ((TupLe.same s2).trans t) pf) ?_
        simp only [List.flatMap_cons, List.flatMap_nil, List.append_nil]
        exact Paired.tl IIAt.st t pd
    · rintro σ H1 ⟨x2, rfl, L, s⟩
      exact ⟨_, rfl, k f H1 hf L s⟩
end Rs

namespace Rs
open PySem PySem.Spec PyProof.Rows L2
abbrev N_cuts_of : List Str := ["costs", "begin", "end", "ways", "best", "least", "part", "later", "here", "there", "one"]
abbrev P_cuts_of : List Str := ["costs", "begin", "end", "ways"]
def Sound (c : Int → Int → Int) (b e : Int) (j : Nat) (t s : Int) (ps : List Int) : Prop := Asc b ps t ∧ ps.length = j ∧ s = cutSum c b ps ∧ t ≤ e ∧ (j = 1 → t < e)
structure BestV (c : Int → Int → Int) (b e : Int) (j : Nat) (H : Hp) (kvs : List (Key × V)) : Prop where
  nd : (kvs.map (·.1)).Nodup
  snd : ∀ k v, valV kvs k = some v → ∃ t s ps, k = Sum.inl t ∧ CutAt H v (s, ps) ∧ Sound c b e j t s ps
  cmp : ∀ qs t, Asc b qs t → qs.length = j → t < e → ∃ v s ps, valV kvs (Sum.inl t) = some v ∧ CutAt H v (s, ps) ∧ s ≤ cutSum c b qs
structure LateV (c : Int → Int → Int) (b e : Int) (j : Nat) (Pr : Int → Int → Prop) (H : Hp) (bk lk : List (Key × V)) : Prop where
  nd : (lk.map (·.1)).Nodup
  snd : ∀ k v, valV lk k = some v → ∃ t s ps, k = Sum.inl t ∧ CutAt H v (s, ps) ∧ Sound c b e (j + 1) t s ps
  cmp : ∀ h vh sh ph, valV bk (Sum.inl h) = some vh → CutAt H vh (sh, ph) → ∀ t, Pr h t → h < t → t ≤ e → t - h < e - b → ∃ v s ps, valV lk (Sum.inl t) = some v ∧ CutAt H v (s, ps) ∧ s ≤ sh + c h t
def LeastV (c : Int → Int → Int) (b e : Int) (j : Nat) (H : Hp) (v : V) : Prop :=
  (v = .non ∧ ∀ qs, Asc b qs e → 2 ≤ qs.length → qs.length ≤ j → False) ∨ ∃ s ps, CutAt H v (s, ps) ∧ Asc b ps e ∧ 2 ≤ ps.length ∧ ps.length ≤ j ∧ s = cutSum c b ps ∧ ∀ qs, Asc b qs e → 2 ≤ qs.length → qs.length ≤ j → s ≤ cutSum c b qs
section
variable {c : Int → Int → Int} {b e : Int} {j : Nat} {H H' : Hp} {bk lk : List (Key × V)} {Pr Pr' : Int → Int → Prop}
theorem BestV.tl (B : BestV c b e j H bk) (t : TL H H') : BestV c b e j H' bk :=
  ⟨B.nd, fun k v h => let ⟨a, s, ps, x, y, z⟩ := B.snd k v h; ⟨a, s, ps, x, y.tl t, z⟩, fun qs a x y z => let ⟨v, s, ps, p, q, r⟩ := B.cmp qs a x y z; ⟨v, s, ps, p, q.tl t, r⟩⟩
theorem BestV.few (B : BestV c b e j H bk) (n : Nat) (h : e ≤ b + n) : bk.length ≤ n + 1 := keys_few (b := b) B.nd fun k hk => by
  obtain ⟨kv, hkv, rfl⟩ := List.mem_map.mp hk
  obtain ⟨u, hu⟩ := valV_of_mem (kvs := bk) (k := kv.1) (v := kv.2) hkv
  obtain ⟨t, s, ps, x, _, a, _, _, le, _⟩ := B.snd _ _ hu
  have := asc_le a
  exact ⟨t, x, by omega, by omega⟩
theorem LateV.few (L : LateV c b e j Pr H bk lk) (n : Nat) (h : e ≤ b + n) : lk.length ≤ n + 1 := keys_few (b := b) L.nd fun k hk => by
  obtain ⟨kv, hkv, rfl⟩ := List.mem_map.mp hk
  obtain ⟨u, hu⟩ := valV_of_mem (kvs := lk) (k := kv.1) (v := kv.2) hkv
  obtain ⟨t, s, ps, x, _, a, _, _, le, _⟩ := L.snd _ _ hu
  have := asc_le a
  exact ⟨t, x, by omega, by omega⟩
theorem LateV.tl (L : LateV c b e j Pr H bk lk) (B : BestV c b e j H bk) (t : TL H H') : LateV c b e j Pr H' bk lk :=
  ⟨L.nd, fun k v h => let ⟨a, s, ps, x, y, z⟩ := L.snd k v h; ⟨a, s, ps, x, y.tl t, z⟩, fun h vh sh ph h1 h2 a p q r z => by
    obtain ⟨t0, s0, ps0, x, y, _⟩ := B.snd _ _ h1
    have u := CutAt.uniq (y.tl t) h2
    rw [u] at y
    obtain ⟨v, s, ps, p1, p2, p3⟩ := L.cmp h vh sh ph h1 y a p q r z
    exact ⟨v, s, ps, p1, p2.tl t, p3⟩⟩
theorem LateV.imp (L : LateV c b e j Pr H bk lk) (i : ∀ h t, (valV bk (Sum.inl h)).isSome = true → Pr' h t → h < t → t ≤ e → t - h < e - b → Pr h t) : LateV c b e j Pr' H bk lk :=
  ⟨L.nd, L.snd, fun h vh sh ph h1 h2 a p q r z => L.cmp h vh sh ph h1 h2 a (i h a (by rw [h1]; rfl) p q r z) q r z⟩
theorem LateV.put (L : LateV c b e j Pr H bk lk) {h t s : Int} {vh v : V} {sh : Int} {ph ps : List Int} (hb : valV bk (Sum.inl h) = some vh) (hc : CutAt H vh (sh, ph)) (hv : CutAt H v (s, ps)) (sd : Sound c b e (j + 1) t s ps) (le : s ≤ sh + c h t)
    (old : ∀ u r, valV lk (Sum.inl t) = some u → CutAt H u r → s ≤ r.1) : LateV c b e j (fun h' t' => Pr h' t' ∨ (h' = h ∧ t' = t)) H bk (putK lk (Sum.inl t) v) := by
  refine ⟨putK_nd L.nd, fun k u hk => ?_, fun h' vh' sh' ph' h1 h2 t' p q r z => ?_⟩
  · rw [valV_put] at hk
    split at hk
    · rename_i ek
      cases hk
      exact ⟨t, s, ps, ek, hv, sd⟩
    · exact L.snd k u hk
  · rw [valV_put]
    rcases p with p | ⟨rfl, rfl⟩
    · obtain ⟨u, s', ps', p1, p2, p3⟩ := L.cmp h' vh' sh' ph' h1 h2 t' p q r z
      by_cases et : t' = t
      · subst et
        rw [if_pos rfl]
        have := old u _ p1 p2
        exact ⟨v, s, ps, rfl, hv, by show s ≤ _; have : s ≤ s' := this; omega⟩
      · rw [if_neg (fun x => et (by injection x))]
        exact ⟨u, s', ps', p1, p2, p3⟩
    · rw [if_pos rfl]
      rw [hb] at h1
      cases h1
      have u := CutAt.uniq hc h2
      injection u with u1 u2
      exact ⟨v, s, ps, rfl, hv, by rw [← u1]; exact le⟩
theorem LateV.best (L : LateV c b e j (fun _ _ => True) H bk lk) (B : BestV c b e j H bk) : BestV c b e (j + 1) H lk := by
  refine ⟨L.nd, L.snd, fun qs t a l lt => ?_⟩
  obtain ⟨ps, h, eq, a', hl⟩ := asc_last a (by intro z; rw [z] at l; simp at l)
  have lp : ps.length = j := by rw [eq] at l; simpa using l
  obtain ⟨vh, sh, ph, h1, h2, h3⟩ := B.cmp ps h a' lp (by omega)
  have := asc_le a'
  obtain ⟨v, s, ps', p1, p2, p3⟩ := L.cmp h vh sh ph h1 h2 t trivial hl (by omega) (by omega)
  refine ⟨v, s, ps', p1, p2, ?_⟩
  rw [eq, cut_snoc a']
  omega
theorem LateV.last (L : LateV c b e j (fun _ _ => True) H bk lk) (B : BestV c b e j H bk) {qs : List Int} (a : Asc b qs e) (l : qs.length = j + 1) (h2j : 1 ≤ j) : ∃ v s ps, valV lk (Sum.inl e) = some v ∧ CutAt H v (s, ps) ∧ s ≤ cutSum c b qs := by
  obtain ⟨ps, h, eq, a', hl⟩ := asc_last a (by intro z; rw [z] at l; simp at l)
  have lp : ps.length = j := by rw [eq] at l; simpa using l
  obtain ⟨vh, sh, ph, h1, h2, h3⟩ := B.cmp ps h a' lp hl
  have := asc_le a'
  obtain ⟨v, s, ps', p1, p2, p3⟩ := L.cmp h vh sh ph h1 h2 e trivial hl (by omega) (by omega)
  refine ⟨v, s, ps', p1, p2, ?_⟩
  rw [eq, cut_snoc a']
  omega
theorem BestV.drop (B : BestV c b e j H bk) : BestV c b e j H (dropK bk (Sum.inl e)) := by
  refine ⟨?_, fun k v h => ?_, fun qs t x y z => ?_⟩
  · exact B.nd.sublist ((List.filter_sublist).map _)
  · rw [valV_drop] at h
    split at h
    · cases h
    · exact B.snd k v h
  · obtain ⟨v, s, ps, p, q, r⟩ := B.cmp qs t x y z
    refine ⟨v, s, ps, ?_, q, r⟩
    rw [valV_drop, if_neg (fun w => by injection w with w; omega)]
    exact p
end
def sp_cuts_of (K : PySem.W.Frag) : Sp := fun vs H Q E => match vs with
  | [dv, bv, ev, wv] => ∃ (dc : Addr) (cl : Costs) (b e : Int) (w : Nat), dv = .ref dc ∧ Rd H dc (.dT (encC cl)) ∧ bv = .int b ∧ ev = .int e ∧ wv = .int (w : Int) ∧ 0 ≤ b ∧ b + 2 ≤ e ∧ e ≤ b + 40 ∧ e ≤ 1000 ∧ 2 ≤ w ∧ w ≤ 6 ∧
    ∀ v H' s ps, CutAt H' v (s, ps) → BestCut (cOf cl) b e w s ps → Same H H' → Q v H'
  | _ => False
def t_cuts_of (K : PySem.W.Frag) (E : XK) : TS := (tSeq (tAsg (tDisp [ ((tVar 1) , (tTup (tConsC (.int 0) (tCons (tLst tNil) tNil)))) ]) (gName 4))
  (tSeq (tAsg (tC .non) (gName 5))
   (tSeq (tFor (iRng1 (tCons (tVar 3) tNil)) (gName 6) 
      (tSeq (tAsg tDNewK (gName 7))
      (tSeq (tLock (tFor (iKeys (tVar 4)) (gName 8) (tFor (iRng2 (tCons (tOpC xAdd (tVar 8) (.int 1)) (tCons (tOpC xAdd (tVar 2) (.int 1)) tNil))) (gName 9) (tIfS (tTest (tOp xLt (tOp xSub (tVar 9) (tVar 8)) (tOp xSub (tVar 2) (tVar 1)))) (tSeq (tAsg (tTup (tCons (tOp xAdd (tOpC (rIxT K) (tDGet (tVar 4) (tVar 8)) (.int 0)) (tDGet2 (tVar 0) (tTup (tCons (tVar 8) (tCons (tVar 9) tNil))) (tC (.int 0)))) (tCons (tOp rCat (tOpC (rIxT K) (tDGet (tVar 4) (tVar 8)) (.int 1)) (tLst (tCons (tVar 9) tNil))) tNil))) (gName 10)) (sDPut (tVar 7) (tVar 9) (tCB (rMinCut K) (tCons (tVar 10) (tCons (tDGet2 (tVar 7) (tVar 9) (tVar 10)) tNil))))) tNext))))
       (tSeq (tAsg (tVar 7) (gName 4))
        (tIfS (tAnd (tB (tDIn (tVar 2) (tVar 4))) (tOr (tTest (tOpC rIsN (tVar 5) .non)) (tTest (tOp (rLtCut K) (tDGet (tVar 4) (tVar 2)) (tVar 5))))) (tAsg (tDPop1 (tVar 4) (tVar 2)) (gName 5)) tNext)))))
    (tRet (tVar 5)))))
theorem Rd.same {H H' : Hp} {a : Addr} {u : HO} (s : Same H H') (r : Rd H a u) : Rd H' a u := by
  rcases r with r | ⟨o, r⟩
  · exact .inl (s _ _ r)
  · exact .inr ⟨o, s _ _ r⟩
theorem pure_cuts_of {K : PySem.W.Frag} : ∀ vs H Q E, sp_cuts_of K vs H Q E → t_cuts_of K E { nx := fun _ H' => Q .non H', rt := Q } (start N_cuts_of vs) H := by
  intro vs H Q E hyp
  match vs, hyp with
  | [dv, bv, ev, wv], hyp =>
    obtain ⟨dc, cl, b, e, w, rfl, hdc, rfl, rfl, rfl, b0, be, eb, e1000, w2, w6, k⟩ := hyp
    -- best
    refine fun db hdb => ⟨_, rfl, sz0, fun q hq => ⟨szle (by show 2 ≤ 100000; decide), fun t ht => ?_⟩⟩
    have s0 : Same H (upd (upd (upd H db (.dK [])) q (.lst [])) t (.tup [.int 0, .ref q])) := ((Rs.Same.new hdb).trans (Rs.Same.new hq)).trans (Rs.Same.new ht)
    have edb : upd (upd (upd H db (.dK [])) q (.lst [])) t (.tup [.int 0, .ref q]) db = some (.dK []) := un (un upd_same hq) ht
    have eq_ : upd (upd (upd H db (.dK [])) q (.lst [])) t (.tup [.int 0, .ref q]) q = some (.lst []) := un upd_same ht
    have et : upd (upd (upd H db (.dK [])) q (.lst [])) t (.tup [.int 0, .ref q]) t = some (.tup [.int 0, .ref q]) := upd_same
    generalize upd (upd (upd H db (.dK [])) q (.lst [])) t (.tup [.int 0, .ref q]) = H1 at s0 edb eq_ et ⊢
    refine ⟨edb, [(Sum.inl b, .ref t)], rfl, by show 1 ≤ 15; decide, ?_⟩
    have em : mergeK [] [((Sum.inl b : Key), V.ref t)] = [(Sum.inl b, .ref t)] := by
      rw [mergeK_app _ _ (by simp) (fun _ _ => rfl)]
      rfl
    rw [em]
    have t1 : TL H1 (upd H1 db (.dK [(Sum.inl b, .ref t)])) := TL.dk edb
    have s1 : Same H (upd H1 db (.dK [(Sum.inl b, .ref t)])) := Rs.Same.mut s0 hdb
    have edb1 : upd H1 db (.dK [(Sum.inl b, .ref t)]) db = some (.dK [(Sum.inl b, .ref t)]) := upd_same
    have ct : CutAt (upd H1 db (.dK [(Sum.inl b, .ref t)])) (.ref t) (0, []) := CutAt.tl t1 ⟨t, q, rfl, et, eq_⟩
    generalize upd H1 db (.dK [(Sum.inl b, .ref t)]) = H2 at t1 s1 edb1 ct ⊢
    have B0 : BestV (cOf cl) b e 0 H2 [(Sum.inl b, .ref t)] := by
      refine ⟨by simp, fun k v hk => ?_, fun qs t' a l lt => ?_⟩
      · by_cases ek : (Sum.inl b : Key) = k
        · rw [valV_pos ek] at hk
          cases hk
          exact ⟨b, 0, [], ek.symm, ct, rfl, rfl, rfl, by omega, fun z => by omega⟩
        · rw [valV_neg ek] at hk
          cases hk
      · have e0 : qs = [] := List.eq_nil_of_length_eq_zero l
        subst e0
        have a : b = t' := a
        subst a
        exact ⟨.ref t, 0, [], valV_pos rfl, ct, Int.le_refl _⟩
    refine ⟨_, rfl, _, rfl, by show _ ≤ (w : Int); omega, by show (w : Int) < _; omega, ?_⟩
    have ewn : ((w : Int)).toNat = w := by omega
    rw [ewn]
    refine for_range (lo := 0) (n := w) (fun j σ H' => ∃ (db : Addr) (bk : List (Key × V)) (x5 : V) (x6 x7 x8 x9 x10 : Option V), σ = [some (.ref dc), some (.int b), some (.int e), some (.int (w : Int)), some (.ref db), some x5, x6, x7, x8, x9, x10] ∧ H' db = some (.dK bk) ∧ H db = none ∧ BestV (cOf cl) b e j H' bk ∧ LeastV (cOf cl) b e j H' x5 ∧ Same H H')
      ⟨db, _, .non, none, none, none, none, none, rfl, edb1, hdb, B0, .inl ⟨rfl, fun qs _ h1 h2 => by omega⟩, s1⟩ ?_ ?_
    · clear B0 ct edb1 s1 t1 em et eq_ edb s0 ht hq hdb
      rintro j σ H3 hj ⟨db, bk, x5, x6, x7, x8, x9, x10, rfl, hdb, hdb0, B, Le, s3⟩
      -- later
      refine fun dl hdl => ?_
      have hdl0 : H dl = none := s3.free hdl
      have ndl : db ≠ dl := ne_of_none hdb hdl
      have s4 : Same H3 (upd H3 dl (.dK [])) := Rs.Same.new hdl
      have hdb4 := s4 _ _ hdb
      have hdl4 : upd H3 dl (.dK []) dl = some (.dK []) := upd_same
      have s04 := s3.trans s4
      have B4 := B.tl (TL.same s4)
      have Le4 : LeastV (cOf cl) b e j (upd H3 dl (.dK [])) x5 := by
        rcases Le with l | ⟨s, ps, l, r⟩
        · exact .inl l
        · exact .inr ⟨s, ps, l.tl (TL.same s4), r⟩
      generalize upd H3 dl (.dK []) = H4 at s4 hdb4 hdl4 s04 B4 Le4 ⊢
      clear s4 B Le hdb hdl s3
      have few := B4.few 40 (by omega)
      refine ⟨db, .dK bk, hdb4, trivial, fun od => ?_⟩
      have t5 : TL H4 (upd H4 db (.frz od (.dK bk))) := TL.dk hdb4
      have s05 : Same H (upd H4 db (.frz od (.dK bk))) := Rs.Same.mut s04 hdb0
      have hdl5 := up (u := .frz od (.dK bk)) hdl4 ndl.symm
      have hdb5 : upd H4 db (.frz od (.dK bk)) db = some (.frz od (.dK bk)) := upd_same
      have B5 := B4.tl t5
      have Le5 : LeastV (cOf cl) b e j (upd H4 db (.frz od (.dK bk))) x5 := by
        rcases Le4 with l | ⟨s, ps, l, r⟩
        · exact .inl l
        · exact .inr ⟨s, ps, l.tl t5, r⟩
      generalize upd H4 db (.frz od (.dK bk)) = H5 at t5 s05 hdl5 hdb5 B5 Le5 ⊢
      clear B4 Le4 hdl4 hdb4 s04 t5
      refine ⟨_, rfl, db, od, rfl, .inl ⟨bk, hdb5, ?_⟩⟩
      refine for_it (walk_keys (d := db) (o := od) (kvs := bk)) (fun i σ H' => ∃ (lk : List (Key × V)) (x8 x9 x10 : Option V), σ = [some (.ref dc), some (.int b), some (.int e), some (.int (w : Int)), some (.ref db), some x5, some (.int (0 + (j : Int))), some (.ref dl), x8, x9, x10] ∧ H' db = some (.frz od (.dK bk)) ∧ H' dl = some (.dK lk) ∧
          LateV (cOf cl) b e j (fun h t => ∃ i' v, i' < i ∧ bk[i']? = some (Sum.inl h, v)) H' bk lk ∧ TL H5 H' ∧ Same H H')
        ⟨[], x8, x9, x10, rfl, hdb5, hdl5, ⟨by simp, fun k v h => (by cases h), fun h vh sh ph h1 h2 t ⟨i', v, z, _⟩ => (by omega)⟩, TL.refl _, s05⟩ ?_ ?_ ?_
      · rintro i σ H' _ ⟨_, _, _, _, _, h, _⟩
        exact h
      · rintro i x σ H6 _ hi ⟨lk, x8, x9, x10, rfl, hdb6, hdl6, L6, t6, s6⟩ ⟨rfl, kk_, v_, hk, rfl⟩
        obtain ⟨vh, hvh⟩ := valV_of_mem (List.mem_of_getElem? hk)
        obtain ⟨h, sh, ph, rfl, ch, sdh⟩ := B5.snd _ _ hvh
        have ash := asc_le sdh.1
        have hlp := sdh.2.1
        have hle := sdh.2.2.2.1
        have csum := sdh.2.2.1
        refine ⟨_, rfl, _, _, rfl, rfl, _, rfl, _, _, rfl, rfl, _, _, rfl, ⟨by show _ ≤ h + 1; omega, by show h + 1 < _; omega, by show _ ≤ e + 1; omega, by show e + 1 < _; omega⟩, ?_⟩
        refine for_range (lo := h + 1) (n := (e + 1 - (h + 1)).toNat) (fun m σ H' => ∃ (lk : List (Key × V)) (x9 x10 : Option V), σ = [some (.ref dc), some (.int b), some (.int e), some (.int (w : Int)), some (.ref db), some x5, some (.int (0 + (j : Int))), some (.ref dl), some (.int h), x9, x10] ∧ H' db = some (.frz od (.dK bk)) ∧ H' dl = some (.dK lk) ∧
          LateV (cOf cl) b e j (fun h' t => (∃ i' v, i' < i ∧ bk[i']? = some (Sum.inl h', v)) ∨ (h' = h ∧ t < h + 1 + (m : Int))) H' bk lk ∧ TL H5 H' ∧ Same H H')
          ⟨lk, x9, x10, rfl, hdb6, hdl6, L6.imp fun h' t _ p q _ _ => by
            rcases p with p | ⟨p1, p2⟩
            · exact p
            · subst p1; omega, t6, s6⟩ ?_ ?_
        · clear hdb6 hdl6 L6 t6 s6
          rintro m σ H7 hm ⟨lk, x9, x10, rfl, hdb7, hdl7, L7, t7, s7⟩
          have B7 := B5.tl t7
          have ch7 := ch.tl t7
          generalize et_ : h + 1 + (m : Int) = t at L7 ⊢
          have few7 := L7.few 40 (by omega)
          refine ⟨_, rfl, _, rfl, _, _, rfl, rfl, _, rfl, _, rfl, _, _, rfl, rfl, _, _, rfl, rfl, _, rfl, ?_⟩
          by_cases cond : t - h < e - b
          · rw [decide_eq_true cond]
            obtain ⟨a, l, ea, h1, h2⟩ := id ch7
            have tb : IsTp H7 vh [.int sh, .ref l] := ⟨a, ea, h1⟩
            have gb : DGet H7 db (.int h) (some vh) := by
              rw [← hvh]
              exact .inl ⟨bk, Sum.inl h, .inr ⟨od, hdb7⟩, rfl, rfl⟩
            have gdc := Rd.same s7 hdc
            -- one
            refine ⟨_, rfl, _, rfl, db, vh, rfl, gb, ixT tb (j := 0) rfl rfl ⟨_, rfl, dc, rfl, .inr ⟨_, gdc⟩, _, rfl, _, rfl, szle (by show 2 ≤ 100000; decide), fun t1 ht1 => ?_⟩⟩
            have s8 : Same H7 (upd H7 t1 (.tup [.int h, .int t])) := Rs.Same.new ht1
            refine ⟨_, .inr ⟨encC cl, kk h t, t1, Rd.same s8 gdc, rfl, upd_same, rfl⟩, sh, cOf cl h t, rfl, enc_getD cl h t, ?_⟩
            have gb8 : DGet (upd H7 t1 (.tup [.int h, .int t])) db (.int h) (some vh) := by
              rw [← hvh]
              exact .inl ⟨bk, Sum.inl h, .inr ⟨od, s8 _ _ hdb7⟩, rfl, rfl⟩
            have tb8 := IsTp.mono (TupLe.same s8) tb
            have hl8 := s8 _ _ h2
            have s08 := s7.trans s8
            have hdb8 := s8 _ _ hdb7
            have hdl8 := s8 _ _ hdl7
            generalize upd H7 t1 (.tup [.int h, .int t]) = H8 at s8 gb8 tb8 hl8 s08 hdb8 hdl8 ⊢
            refine ⟨_, rfl, _, rfl, db, vh, rfl, gb8, ixT tb8 (j := 1) rfl rfl ⟨_, rfl, szle (by show 1 ≤ 100000; decide), fun q hq => ?_⟩⟩
            have s9 : Same H8 (upd H8 q (.lst [.int t])) := Rs.Same.new hq
            refine ⟨l, q, _, _, rfl, rfl, s9 _ _ hl8, upd_same, szle (by show (ph.map V.int).length + 1 ≤ 100000; rw [List.length_map, hlp]; omega), fun l2 hl2 => ⟨szle (by show 2 ≤ 100000; decide), fun t2 ht2 => ?_⟩⟩
            have s10 : Same H8 (upd (upd (upd H8 q (.lst [.int t])) l2 (.lst (ph.map V.int ++ [.int t]))) t2 (.tup [.int (sh + cOf cl h t), .ref l2])) := (s9.trans (Rs.Same.new hl2)).trans (Rs.Same.new ht2)
            have one : CutAt (upd (upd (upd H8 q (.lst [.int t])) l2 (.lst (ph.map V.int ++ [.int t]))) t2 (.tup [.int (sh + cOf cl h t), .ref l2])) (.ref t2) (sh + cOf cl h t, ph ++ [t]) := ⟨t2, l2, rfl, upd_same, by rw [List.map_append]; exact un upd_same ht2⟩
            generalize upd (upd (upd H8 q (.lst [.int t])) l2 (.lst (ph.map V.int ++ [.int t]))) t2 (.tup [.int (sh + cOf cl h t), .ref l2]) = H10 at s10 one ⊢
            have s710 := s8.trans s10
            have s010 := s08.trans s10
            have hdb10 := s10 _ _ hdb8
            have hdl10 := s10 _ _ hdl8
            have B10 := B7.tl (TL.same s710)
            have L10 := L7.tl B7 (TL.same s710)
            have ch10 := ch7.tl (TL.same s710)
            have t10 := t7.trans (TL.same s710)
            clear s9 s8 gb8 tb8 hl8 hdb8 hdl8 s10 hq hl2 ht2 ht1 L7 gb tb h1 h2 ea
            have sdt : Sound (cOf cl) b e (j + 1) t (sh + cOf cl h t) (ph ++ [t]) := by
              refine ⟨asc_snoc sdh.1 (by omega), by rw [List.length_append, hlp]; rfl, by rw [cut_snoc sdh.1, csum], by omega, fun z => ?_⟩
              have j0 : j = 0 := by omega
              have : ph = [] := List.eq_nil_of_length_eq_zero (by omega)
              have hb : b = h := by
                have := sdh.1
                rw [‹ph = []›] at this
                exact this
              omega
            -- what is put
            have fin : ∀ (v : V) (s : Int) (ps : List Int), CutAt H10 v (s, ps) → Sound (cOf cl) b e (j + 1) t s ps → s ≤ sh + cOf cl h t → (∀ u r, valV lk (Sum.inl t) = some u → CutAt H10 u r → s ≤ r.1) → ∀ x9 x10 : Option V,
                ∃ (lk' : List (Key × V)) (y9 y10 : Option V), ([some (.ref dc), some (.int b), some (.int e), some (.int (w : Int)), some (.ref db), some x5, some (.int (0 + (j : Int))), some (.ref dl), some (.int h), x9, x10] : L2.St) = [some (.ref dc), some (.int b), some (.int e), some (.int (w : Int)), some (.ref db), some x5, some (.int (0 + (j : Int))), some (.ref dl), some (.int h), y9, y10] ∧ upd H10 dl (.dK (putK lk (Sum.inl t) v)) db = some (.frz od (.dK bk)) ∧ upd H10 dl (.dK (putK lk (Sum.inl t) v)) dl = some (.dK lk') ∧
                LateV (cOf cl) b e j (fun h' t' => (∃ i' v, i' < i ∧ bk[i']? = some (Sum.inl h', v)) ∨ (h' = h ∧ t' < h + 1 + ((m + 1 : Nat) : Int))) (upd H10 dl (.dK (putK lk (Sum.inl t) v))) bk lk' ∧ TL H5 (upd H10 dl (.dK (putK lk (Sum.inl t) v))) ∧ Same H (upd H10 dl (.dK (putK lk (Sum.inl t) v))) := fun v s ps cv sv le old x9 x10 => by
              have t11 : TL H10 (upd H10 dl (.dK (putK lk (Sum.inl t) v))) := TL.dk hdl10
              refine ⟨_, x9, x10, rfl, up hdb10 ndl, upd_same, ?_, t10.trans t11, Rs.Same.mut s010 hdl0⟩
              refine ((L10.put hvh ch10 cv sv le old).imp fun h' t' _ p q _ _ => ?_).tl B10 t11
              rcases p with p | ⟨p1, p2⟩
              · exact .inl (.inl p)
              · by_cases et2 : t' = t
                · exact .inr ⟨p1, et2⟩
                · exact .inl (.inr ⟨p1, by omega⟩)
            refine ⟨_, rfl, _, rfl, dl, rfl, .inl ⟨lk, .inl hdl10⟩, _, rfl, _, rfl, _, DGet.k (k := Sum.inl t) hdl10, ?_⟩
            cases hv : valV lk (Sum.inl t) with
            | none =>
              exact ⟨_, _, _, _, rfl, one.dp, one.dp, fun _ => ⟨_, rfl, _, rfl, dl, _, rfl, DPut.k (k := Sum.inl t) hdl10 (szlt (by omega)), fin _ _ _ one sdt (Int.le_refl _) (fun u r z => by rw [hv] at z; cases z) _ _⟩, fun _ => ⟨_, rfl, _, rfl, dl, _, rfl, DPut.k (k := Sum.inl t) hdl10 (szlt (by omega)), fin _ _ _ one sdt (Int.le_refl _) (fun u r z => by rw [hv] at z; cases z) _ _⟩⟩
            | some u =>
              obtain ⟨t', su, pu, et2, cu, sdu⟩ := L10.snd _ _ hv
              injection et2 with et2
              subst et2
              refine ⟨_, _, _, _, rfl, one.dp, cu.dp, fun le => ⟨_, rfl, _, rfl, dl, _, rfl, DPut.k (k := Sum.inl t) hdl10 (szlt (by omega)), fin _ _ _ one sdt (Int.le_refl _) (fun u' r z zr => ?_) _ _⟩, fun le => ⟨_, rfl, _, rfl, dl, _, rfl, DPut.k (k := Sum.inl t) hdl10 (szlt (by omega)), fin _ _ _ cu sdu le (fun u' r z zr => ?_) _ _⟩⟩
              · rw [hv] at z
                cases z
                have := CutAt.uniq cu zr
                rw [← this]
                exact le
              · rw [hv] at z
                cases z
                have := CutAt.uniq cu zr
                rw [← this]
                exact Int.le_refl _
          · rw [decide_eq_false cond]
            refine ⟨lk, _, x10, rfl, hdb7, hdl7, L7.imp fun h' t' _ p q _ r => ?_, t7, s7⟩
            rcases p with p | ⟨p1, p2⟩
            · exact .inl p
            · by_cases et2 : t' = t
              · exfalso
                rw [et2, p1] at r
                exact cond r
              · exact .inr ⟨p1, by omega⟩
        · rintro σ H7 ⟨lk, x9, x10, rfl, hdb7, hdl7, L7, t7, s7⟩
          refine ⟨lk, _, x9, x10, rfl, hdb7, hdl7, L7.imp fun h' t' hs p q r _ => ?_, t7, s7⟩
          obtain ⟨i', v', p1, p2⟩ := p
          by_cases ei : i' = i
          · rw [ei, hk] at p2
            injection p2 with p2
            injection p2 with p2
            injection p2 with p2
            exact .inr ⟨p2.symm, by omega⟩
          · exact .inl ⟨i', v', by omega, p2⟩
      · rintro σ H6 ⟨lk, x8, x9, x10, rfl, hdb6, hdl6, L6, t6, s6⟩
        have B6 := B5.tl t6
        have La : LateV (cOf cl) b e j (fun _ _ => True) H6 bk lk := L6.imp fun h' t' hs _ _ _ _ => by
          obtain ⟨v, hv⟩ := Option.isSome_iff_exists.mp hs
          obtain ⟨i', hi'⟩ := valV_mem hv
          exact ⟨i', v, (List.getElem?_eq_some_iff.mp hi').1, hi'⟩
        refine ⟨hdb6, ?_⟩
        have t7 : TL H6 (upd H6 db (.dK bk)) := TL.fz hdb6
        have s7 : Same H (upd H6 db (.dK bk)) := Rs.Same.mut s6 hdb0
        have hdl7 := up (u := .dK bk) hdl6 ndl.symm
        have B7 := B6.tl t7
        have La7 := La.tl B6 t7
        have Le7 : LeastV (cOf cl) b e j (upd H6 db (.dK bk)) x5 := by
          rcases Le5 with l | ⟨s, ps, l, r⟩
          · exact .inl l
          · exact .inr ⟨s, ps, (l.tl t6).tl t7, r⟩
        generalize upd H6 db (.dK bk) = H7 at t7 s7 hdl7 B7 La7 Le7 ⊢
        clear La B6 B5 Le5 L6 t6 s6 hdb6 hdl6 hdb5 hdl5 s05 t7
        have B8 := La7.best B7
        refine ⟨_, rfl, ?_⟩
        refine ⟨_, rfl, _, rfl, dl, _, rfl, DGet.k (k := Sum.inl e) hdl7, _, rfl, ?_⟩
        cases hE : valV lk (Sum.inl e) with
        | none =>
          refine ⟨dl, lk, x5, _, _, x8, x9, x10, rfl, hdl7, hdl0, B8, ?_, s7⟩
          have nop : ∀ qs, Asc b qs e → 2 ≤ qs.length → qs.length = j + 1 → False := fun qs a h1 h2 => by
            obtain ⟨v, s, ps, z, _⟩ := La7.last B7 a h2 (by omega)
            rw [hE] at z
            cases z
          rcases Le7 with ⟨l1, l2⟩ | ⟨s, ps, l1, l2, l3, l4, l5, l6⟩
          · refine .inl ⟨l1, fun qs a h1 h2 => ?_⟩
            by_cases eq : qs.length = j + 1
            · exact nop qs a h1 eq
            · exact l2 qs a h1 (by omega)
          · refine .inr ⟨s, ps, l1, l2, l3, by omega, l5, fun qs a h1 h2 => ?_⟩
            by_cases eq : qs.length = j + 1
            · exact (nop qs a h1 eq).elim
            · exact l6 qs a h1 (by omega)
        | some ve =>
          obtain ⟨te, se, pe, ek, ce, sde⟩ := La7.snd _ _ hE
          injection ek with ek
          subst ek
          have j1 : 1 ≤ j := by
            rcases Nat.eq_zero_or_pos j with z | z
            · have := sde.2.2.2.2 (by omega)
              omega
            · exact z
          have mine : ∀ qs, Asc b qs e → qs.length = j + 1 → se ≤ cutSum (cOf cl) b qs := fun qs a h2 => by
            obtain ⟨v, s, ps, z, cz, le⟩ := La7.last B7 a h2 j1
            rw [hE] at z
            cases z
            have := CutAt.uniq ce cz
            injection this with u1 u2
            rw [u1]
            exact le
          have t8 : TL H7 (upd H7 dl (.dK (dropK lk (Sum.inl e)))) := TL.dk hdl7
          have pop : (∀ qs, Asc b qs e → 2 ≤ qs.length → qs.length ≤ j → se ≤ cutSum (cOf cl) b qs) → (tAsg (tDPop1 (tVar 4) (tVar 2)) (gName 5)) { nx := fun σ H' => ∃ (db : Addr) (bk : List (Key × V)) (x5 : V) (x6 x7 x8 x9 x10 : Option V), σ = [some (.ref dc), some (.int b), some (.int e), some (.int (w : Int)), some (.ref db), some x5, x6, x7, x8, x9, x10] ∧ H' db = some (.dK bk) ∧ H db = none ∧ BestV (cOf cl) b e (j + 1) H' bk ∧ LeastV (cOf cl) b e (j + 1) H' x5 ∧ Same H H', rt := Q } [some (.ref dc), some (.int b), some (.int e), some (.int (w : Int)), some (.ref dl), some x5, some (.int (0 + (j : Int))), some (.ref dl), x8, x9, x10] H7 := fun sm => by
            refine ⟨_, rfl, dl, rfl, .inl ⟨lk, .inl hdl7⟩, _, rfl, lk, Sum.inl e, ve, hdl7, rfl, hE, ?_⟩
            refine ⟨dl, _, ve, _, _, x8, x9, x10, rfl, upd_same, hdl0, (B8.drop).tl t8, .inr ⟨se, pe, ce.tl t8, sde.1, by rw [sde.2.1]; omega, by rw [sde.2.1]; exact Nat.le_refl _, sde.2.2.1, fun qs a h1 h2 => ?_⟩, Rs.Same.mut s7 hdl0⟩
            by_cases eq : qs.length = j + 1
            · exact mine qs a eq
            · exact sm qs a h1 (by omega)
          rcases Le7 with ⟨l1, l2⟩ | ⟨s, ps, l1, l2, l3, l4, l5, l6⟩
          · subst l1
            exact ⟨_, rfl, rfl, _, rfl, pop fun qs a h1 h2 => (l2 qs a h1 h2).elim⟩
          · have n5 : decide (x5 = V.non) = false := by
              obtain ⟨a, l, rfl, _⟩ := l1
              rfl
            refine ⟨_, rfl, rfl, _, rfl, ?_⟩
            rw [n5]
            refine ⟨_, rfl, _, rfl, dl, ve, rfl, ?_, _, rfl, _, _, ce.dp, l1.dp, fun bb hb1 hb2 => ⟨_, rfl, ?_⟩⟩
            · rw [← hE]
              exact DGet.k (k := Sum.inl e) hdl7
            cases bb with
            | true =>
              refine pop fun qs a h1 h2 => ?_
              have x1 : se ≤ s := hb1 rfl
              have x2 := l6 qs a h1 h2
              omega
            | false =>
              refine ⟨dl, lk, x5, _, _, x8, x9, x10, rfl, hdl7, hdl0, B8, .inr ⟨s, ps, l1, l2, l3, by omega, l5, fun qs a h1 h2 => ?_⟩, s7⟩
              have x1 : s ≤ se := hb2 rfl
              by_cases eq : qs.length = j + 1
              · have x2 := mine qs a eq
                omega
              · exact l6 qs a h1 (by omega)
    · rintro σ H3 ⟨db, bk, x5, x6, x7, x8, x9, x10, rfl, hdb3, hdb0, B3, Le3, s3⟩
      rcases Le3 with ⟨l1, l2⟩ | ⟨s, ps, l1, l2, l3, l4, l5, l6⟩
      · exact (l2 [b + 1, e] ⟨by omega, by omega, rfl⟩ (by show 2 ≤ 2; omega) (by show 2 ≤ w; omega)).elim
      · exact ⟨_, rfl, k x5 H3 s ps l1 ⟨l2, l3, l4, l5, l6⟩ s3⟩
end Rs

namespace Rs
open PySem PySem.Spec PyProof.Rows L2
theorem stretch_mem {n : Nat} {p : Int × Int} : p ∈ stretchL n ↔ 0 ≤ p.1 ∧ p.1 + 2 ≤ p.2 ∧ p.2 ≤ n := by
  unfold stretchL
  rw [List.mem_flatMap]
  constructor
  · rintro ⟨k, hk, h⟩
    obtain ⟨b, hb, rfl⟩ := List.mem_map.mp h
    rw [List.mem_range] at hk hb
    refine ⟨by show (0 : Int) ≤ (b : Int); omega, by show (b : Int) + 2 ≤ (b : Int) + (2 + k); omega, by show (b : Int) + (2 + k) ≤ n; omega⟩
  · rintro ⟨h0, h1, h2⟩
    refine ⟨(p.2 - p.1 - 2).toNat, List.mem_range.mpr (by omega), List.mem_map.mpr ⟨p.1.toNat, List.mem_range.mpr (by omega), ?_⟩⟩
    exact Prod.ext (by show ((p.1.toNat : Nat) : Int) = p.1; omega) (by show ((p.1.toNat : Nat) : Int) + (2 + (((p.2 - p.1 - 2).toNat : Nat) : Int)) = p.2; omega)
def StLt (x y : Int × Int) : Prop := x.2 - x.1 < y.2 - y.1 ∨ (x.2 - x.1 = y.2 - y.1 ∧ x.1 < y.1)
theorem stretch_pw (n : Nat) : (stretchL n).Pairwise StLt := by
  unfold stretchL
  rw [List.pairwise_flatMap]
  refine ⟨fun k hk => ?_, ?_⟩
  · rw [List.pairwise_map]
    refine List.Pairwise.imp ?_ (List.pairwise_lt_range (n := n - 1 - k))
    intro a b h
    exact .inr ⟨by show (a : Int) + (2 + k) - a = (b : Int) + (2 + k) - b; omega, by show (a : Int) < b; omega⟩
  · refine List.Pairwise.imp ?_ (List.pairwise_lt_range (n := n - 1))
    intro a b h x hx y hy
    obtain ⟨i, _, rfl⟩ := List.mem_map.mp hx
    obtain ⟨j, _, rfl⟩ := List.mem_map.mp hy
    exact .inl (by show (i : Int) + (2 + a) - i < (j : Int) + (2 + b) - j; omega)
theorem cs_congr {c c' : Int → Int → Int} {b0 e : Int} (h : ∀ p q, b0 ≤ p → p < q → q ≤ e → ¬ (p = b0 ∧ q = e) → c p q = c' p q) : ∀ (ps : List Int) (b : Int), Asc b ps e → b0 ≤ b → (b0 < b ∨ 2 ≤ ps.length) → cutSum c b ps = cutSum c' b ps
  | [], b, _, _, _ => rfl
  | p :: ps, b, a, h0, h1 => by
    have l := asc_le a.2
    have ih := cs_congr h ps p a.2 (by have := a.1; omega) (.inl (by have := a.1; omega))
    show c b p + cutSum c p ps = c' b p + cutSum c' p ps
    rw [ih, h b p h0 a.1 (by omega) ?_]
    rintro ⟨e1, e2⟩
    rcases h1 with h1 | h1
    · omega
    · rw [List.length_cons] at h1
      omega
theorem BestCut.congr {c c' : Int → Int → Int} {b e : Int} {w : Nat} {s : Int} {ps : List Int} (B : BestCut c b e w s ps) (h : ∀ p q, b ≤ p → p < q → q ≤ e → ¬ (p = b ∧ q = e) → c p q = c' p q) : BestCut c' b e w s ps :=
  ⟨B.asc, B.two, B.le, by rw [B.sum]; exact cs_congr h ps b B.asc (Int.le_refl _) (.inr B.two), fun qs a h1 h2 => by rw [← cs_congr h qs b a (Int.le_refl _) (.inr h1)]; exact B.min qs a h1 h2⟩
theorem look_app {cl : Costs} {b e x : Int} {p q : Int} (h : cLook cl b e = none) : cLook (cl ++ [((b, e), x)]) p q = if (p, q) = (b, e) then some x else cLook cl p q := by
  unfold cLook at h ⊢
  rw [List.find?_append]
  by_cases z : (p, q) = (b, e)
  · rw [if_pos z, z]
    rw [Option.map_eq_none_iff] at h
    rw [h]
    simp
  · rw [if_neg z]
    have : ([((b, e), x)] : Costs).find? (fun r => decide (r.1 = (p, q))) = none := by
      rw [List.find?_cons, decide_eq_false (fun y => z y.symm)]
      rfl
    rw [this]
    cases cl.find? fun r => decide (r.1 = (p, q)) <;> rfl
theorem look_none {cl : Costs} {b e : Int} (h : (b, e) ∉ cl.map (·.1)) : cLook cl b e = none := by
  unfold cLook
  rw [Option.map_eq_none_iff, List.find?_eq_none]
  intro q hq z
  exact h (by rw [← of_decide_eq_true z]; exact List.mem_map_of_mem hq)
def segL (ls : List Int) (b e : Int) : List Int := (ls.drop b.toNat).take (e.toNat - b.toNat)
structure NbOk (xs : List (Int × Int)) (ls : List Int) (w : Nat) (cl : Costs) (el : Int → Int → List Int) : Prop where
  keys : cl.map (·.1) = xs
  best : ∀ b e, (b, e) ∈ xs → ∃ s, BestCut (cOf cl) b e w s (el b e) ∧ cOf cl b e = s + (segL ls b e).sum
def EndsV (xs : List (Int × Int)) (H : Hp) (ek : List (List Key × V)) (el : Int → Int → List Int) : Prop := ∀ b e, (b, e) ∈ xs → ∃ l, valV ek (kk b e) = some (.ref l) ∧ H l = some (.lst ((el b e).map V.int))
theorem EndsV.tl {xs : List (Int × Int)} {H H' : Hp} {ek : List (List Key × V)} {el : Int → Int → List Int} (h : EndsV xs H ek el) (t : TL H H') : EndsV xs H' ek el := fun b e m => let ⟨l, a, c⟩ := h b e m; ⟨l, a, t.2 _ _ c⟩
theorem NbOk.add {ls : List Int} {w : Nat} {xs : List (Int × Int)} {cl : Costs} {el : Int → Int → List Int} {b e s : Int} {ps : List Int} (N : NbOk xs ls w cl el) (pw : (xs ++ [(b, e)]).Pairwise StLt) (B : BestCut (cOf cl) b e w s ps) :
    NbOk (xs ++ [(b, e)]) ls w (cl ++ [((b, e), s + (segL ls b e).sum)]) (fun p q => if (p, q) = (b, e) then ps else el p q) := by
  have lt : ∀ x ∈ xs, StLt x (b, e) := fun x hx => (List.pairwise_append.mp pw).2.2 x hx _ (List.mem_singleton.mpr rfl)
  have nin : (b, e) ∉ xs := fun h => by
    have := lt _ h
    rcases this with z | ⟨_, z⟩ <;> exact absurd z (Int.lt_irrefl _)
  have ln : cLook cl b e = none := look_none (by rw [N.keys]; exact nin)
  have cs : ∀ p q, ¬ (p = b ∧ q = e) → cOf cl p q = cOf (cl ++ [((b, e), s + (segL ls b e).sum)]) p q := fun p q h => by
    unfold cOf
    rw [look_app ln, if_neg (fun z => h (by injection z with z1 z2; exact ⟨z1, z2⟩))]
  refine ⟨by rw [List.map_append, N.keys]; rfl, fun p q h => ?_⟩
  rcases List.mem_append.mp h with h | h
  · have ne : (p, q) ≠ (b, e) := fun z => nin (by rw [← z]; exact h)
    obtain ⟨s', B', e'⟩ := N.best p q h
    rw [if_neg ne]
    refine ⟨s', B'.congr fun p' q' h1 h2 h3 h4 => cs p' q' fun ⟨z1, z2⟩ => ?_, ?_⟩
    · have := lt _ h
      rcases this with z | ⟨z, _⟩
      · have z : q - p < e - b := z
        omega
      · have z : q - p = e - b := z
        exact h4 ⟨by omega, by omega⟩
    · rw [← cs p q (fun ⟨z1, z2⟩ => ne (by rw [z1, z2]))]
      exact e'
  · have z : (p, q) = (b, e) := by simpa using h
    injection z with z1 z2
    subst z1 z2
    rw [if_pos rfl]
    refine ⟨s, B.congr fun p' q' _ _ _ h4 => cs p' q' h4, ?_⟩
    unfold cOf
    rw [look_app ln, if_pos rfl]
    rfl
def rng (b e : Int) : List Int := (List.range (e - b).toNat).map fun (i : Nat) => b + (i : Int)
abbrev N_neighbours_of : List Str := ["lengths", "ways", "costs", "ends", "begin", "end", "least", "places"]
abbrev P_neighbours_of : List Str := ["lengths", "ways"]
def sp_neighbours_of (K : PySem.W.Frag) : Sp := fun vs H Q E => match vs with
  | [lv, wv] => ∃ (l : Addr) (ls : List Int) (w : Nat), lv = .ref l ∧ H l = some (.lst (ls.map V.int)) ∧ ls.length ≤ 40 ∧ wv = .int (w : Int) ∧ 2 ≤ w ∧ w ≤ 6 ∧
    ∀ t dc de cl ek el H', H t = none → H dc = none → H' t = some (.tup [.ref dc, .ref de]) → H' dc = some (.dT (encC cl)) → H' de = some (.dT ek) → EndsV (stretchL ls.length) H' ek el → NbOk (stretchL ls.length) ls w cl el → Same H H' → Q (.ref t) H'
  | _ => False
def t_neighbours_of (K : PySem.W.Frag) (E : XK) : TS := (tSeq (tAsg tDNewT (gName 2))
  (tSeq (tAsg tDNewT (gName 3))
   (tSeq (tFor (iList K (tCall (sp_stretches K) [] E (tCons (tCB1 (xLen K) (tVar 0)) tNil))) (gTup K 2 (gCons (gName 4) (gCons (gName 5) gNil))) 
      (tSeq (tAsg (tCall (sp_cuts_of K) [] E (tCons (tVar 2) (tCons (tVar 4) (tCons (tVar 5) (tCons (tVar 1) tNil))))) (gTup K 2 (gCons (gName 6) (gCons (gName 7) gNil))))
      (tSeq (sDPut (tVar 2) (tTup (tCons (tVar 4) (tCons (tVar 5) tNil))) (tOp xAdd (tVar 6) (tCB1 (rSum K) (tSl (rSlL K) (tVar 0) (tPart (tVar 4)) (tPart (tVar 5))))))
       (sDPut (tVar 3) (tTup (tCons (tVar 4) (tCons (tVar 5) tNil))) (tVar 7)))))
    (tRet (tTup (tCons (tVar 2) (tCons (tVar 3) tNil)))))))
theorem stretch_len {n : Nat} (h : n ≤ 40) : (stretchL n).length ≤ 1600 := by
  have := flat_le h (n - 1) (Nat.le_refl _)
  unfold stretchL
  omega
theorem pure_neighbours_of {K : PySem.W.Frag} : ∀ vs H Q E, sp_neighbours_of K vs H Q E → t_neighbours_of K E { nx := fun _ H' => Q .non H', rt := Q } (start N_neighbours_of vs) H := by
  intro vs H Q E hyp
  match vs, hyp with
  | [lv, wv], hyp =>
    obtain ⟨l, ls, w, rfl, hl, l40, rfl, w2, w6, k⟩ := hyp
    refine fun dc hdc => fun de hde => ?_
    have s1 : Same H (upd (upd H dc (.dT [])) de (.dT [])) := (Rs.Same.new hdc).trans (Rs.Same.new hde)
    have edc : upd (upd H dc (.dT [])) de (.dT []) dc = some (.dT (encC [])) := un upd_same hde
    have ede : upd (upd H dc (.dT [])) de (.dT []) de = some (.dT []) := upd_same
    have nd : dc ≠ de := ne_of_none upd_same hde
    have hde0 : H de = none := (Rs.Same.new hdc).free hde
    generalize upd (upd H dc (.dT [])) de (.dT []) = H1 at s1 edc ede ⊢
    refine ⟨_, rfl, lenL (s1 _ _ hl) rfl ?_⟩
    refine ⟨ls.length, by rw [List.length_map], l40, fun lx H2 hlx Lx s2 => ?_⟩
    have s02 := s1.trans s2
    have edc2 := s2 _ _ edc
    have ede2 := s2 _ _ ede
    clear s1 s2 edc ede hde
    obtain ⟨xv, ex, px⟩ := Lx
    have lxl := px.length
    have sl := stretch_len l40
    refine ⟨lx, rfl, ⟨_, SqL.of ex⟩, ?_⟩
    refine for_list (K := K) (a := lx) (xs := xv) (fun i σ H' => ∃ (cl : Costs) (ek : List (List Key × V)) (el : Int → Int → List Int) (x4 x5 x6 x7 : Option V), σ = [some (.ref l), some (.int (w : Int)), some (.ref dc), some (.ref de), x4, x5, x6, x7] ∧ H' dc = some (.dT (encC cl)) ∧ H' de = some (.dT ek) ∧ ek.length ≤ i ∧ EndsV ((stretchL ls.length).take i) H' ek el ∧ NbOk ((stretchL ls.length).take i) ls w cl el ∧ TL H2 H' ∧ Same H H')
      ⟨[], [], fun _ _ => [], none, none, none, none, rfl, edc2, ede2, Nat.le_refl _, fun b e h => by simp at h, ⟨rfl, fun b e h => by simp at h⟩, TL.refl _, s02⟩ ?_ ?_ ?_
    · rintro i σ H' _ ⟨_, _, _, _, _, _, _, _, _, _, _, _, _, t, _⟩
      exact SqL.of (t.2 _ _ ex)
    · rintro i v σ H3 hi ⟨cl, ek, el, x4, x5, x6, x7, rfl, hdc3, hde3, ekl, EV, N, t3, s3⟩
      obtain ⟨⟨b, e⟩, hx, tx, rfl, etx⟩ := P2.get px hi
      have hil := (List.getElem?_eq_some_iff.mp hx).1
      obtain ⟨m0, m2, mn⟩ := stretch_mem.mp (List.mem_of_getElem? hx)
      dsimp only at m0 m2 mn etx
      have tk : (stretchL ls.length).take (i + 1) = (stretchL ls.length).take i ++ [(b, e)] := by rw [List.take_succ, hx] <;> rfl
      have pw : ((stretchL ls.length).take i ++ [(b, e)]).Pairwise StLt := by
        rw [← tk]
        exact (stretch_pw ls.length).sublist (List.take_sublist _ _)
      have cll : cl.length = ((stretchL ls.length).take i).length := by rw [← N.keys, List.length_map]
      rw [List.length_take] at cll
      refine ⟨tx, _, rfl, SqT.of (t3.1 _ _ etx), rfl, _, _, rfl, _, _, rfl, rfl, ?_⟩
      refine ⟨_, rfl, _, rfl, _, rfl, _, rfl, dc, cl, b, e, w, rfl, .inl hdc3, rfl, rfl, rfl, m0, m2, by omega, by omega, w2, w6, fun v H4 s ps cv B s4 => ?_⟩
      obtain ⟨a, lp, rfl, ha, hlp⟩ := cv
      have hlp : H4 lp = some (.lst (ps.map V.int)) := hlp
      refine ⟨a, _, rfl, SqT.of ha, rfl, _, _, rfl, _, _, rfl, rfl, ?_⟩
      have s04 := s3.trans s4
      have t4 := t3.trans (TL.same s4)
      have hdc4 := s4 _ _ hdc3
      have hde4 := s4 _ _ hde3
      have EV4 := EV.tl (TL.same s4)
      -- costs
      have eb : b = ((b.toNat : Nat) : Int) := by omega
      have ee : e = ((e.toNat : Nat) : Int) := by omega
      refine ⟨_, rfl, _, rfl, _, rfl, _, rfl, _, rfl, _, rfl, l, _, rfl, SqL.of (s04 _ _ hl), fun p hp => ⟨p, segL ls b e, rfl, SqL.of ?_, ?_⟩⟩
      · rw [upd_same]
        congr 2
        conv => lhs; rw [eb, ee]
        rw [cut_mid]
        unfold segL
        rw [List.map_take, List.map_drop]
      have s5 : Same H4 (upd H4 p (.lst (cutV (ls.map V.int) (some b) (some e)))) := Rs.Same.new hp
      generalize upd H4 p (.lst (cutV (ls.map V.int) (some b) (some e))) = H5 at s5 ⊢
      have ln : cLook cl b e = none := look_none (by
        rw [N.keys]
        intro z
        have := (List.pairwise_append.mp pw).2.2 _ z _ (List.mem_singleton.mpr rfl)
        rcases this with y | ⟨_, y⟩ <;> exact absurd y (Int.lt_irrefl _))
      have vn : valV (encC cl) (kk b e) = none := by rw [enc_val, ln]; rfl
      refine ⟨_, _, rfl, rfl, _, rfl, _, rfl, _, rfl, szle (by show 2 ≤ 100000; decide), fun t1 ht1 => ?_⟩
      have s6 : Same H5 (upd H5 t1 (.tup [.int b, .int e])) := Rs.Same.new ht1
      have et1 : upd H5 t1 (.tup [.int b, .int e]) t1 = some (.tup ((kk b e).map kV)) := upd_same
      generalize upd H5 t1 (.tup [.int b, .int e]) = H6 at s6 et1 ⊢
      have s46 := s5.trans s6
      have hdc6 := s46 _ _ hdc4
      have hde6 := s46 _ _ hde4
      refine ⟨dc, _, rfl, DPut.t (k := kk b e) hdc6 et1 (szlt (by unfold encC; rw [List.length_map]; omega)), ?_⟩
      have ec : putK (encC cl) (kk b e) (V.int (s + (segL ls b e).sum)) = encC (cl ++ [((b, e), s + (segL ls b e).sum)]) := by
        rw [putK_new _ vn]
        unfold encC
        rw [List.map_append]
        rfl
      rw [ec]
      have t7 : TL H6 (upd H6 dc (.dT (encC (cl ++ [((b, e), s + (segL ls b e).sum)])))) := TL.put hdc6 (fun _ z => by cases z) (fun _ z => by cases z)
      have s7 : Same H (upd H6 dc (.dT (encC (cl ++ [((b, e), s + (segL ls b e).sum)])))) := Rs.Same.mut (s04.trans s46) hdc
      have hde7 := up (u := .dT (encC (cl ++ [((b, e), s + (segL ls b e).sum)]))) hde6 nd.symm
      have hdc7 : upd H6 dc (.dT (encC (cl ++ [((b, e), s + (segL ls b e).sum)]))) dc = some _ := upd_same
      generalize upd H6 dc (.dT (encC (cl ++ [((b, e), s + (segL ls b e).sum)]))) = H7 at t7 s7 hde7 hdc7 ⊢
      -- ends
      refine ⟨_, rfl, _, rfl, _, rfl, _, rfl, szle (by show 2 ≤ 100000; decide), fun t2 ht2 => ?_⟩
      have s8 : Same H7 (upd H7 t2 (.tup [.int b, .int e])) := Rs.Same.new ht2
      have et2 : upd H7 t2 (.tup [.int b, .int e]) t2 = some (.tup ((kk b e).map kV)) := upd_same
      generalize upd H7 t2 (.tup [.int b, .int e]) = H8 at s8 et2 ⊢
      have hdc8 := s8 _ _ hdc7
      have hde8 := s8 _ _ hde7
      refine ⟨de, _, rfl, DPut.t (k := kk b e) hde8 et2 (szlt (by omega)), ?_⟩
      have t9 : TL H8 (upd H8 de (.dT (putK ek (kk b e) (.ref lp)))) := TL.put hde8 (fun _ z => by cases z) (fun _ z => by cases z)
      have tt := (((TL.same s46).trans t7).trans (TL.same s8)).trans t9
      refine ⟨_, _, _, _, _, _, _, rfl, up hdc8 nd, upd_same, ?_, ?_, by rw [tk]; exact N.add pw B, t4.trans tt, Rs.Same.mut (s7.trans s8) hde0⟩
      · have := length_putK ek (kk b e) (.ref lp)
        omega
      · rw [tk]
        intro p' q' hm
        rw [valV_put]
        rcases List.mem_append.mp hm with z | z
        · have ne : (p', q') ≠ (b, e) := fun y => by
            have := (List.pairwise_append.mp pw).2.2 _ z _ (List.mem_singleton.mpr rfl)
            rw [y] at this
            rcases this with x | ⟨_, x⟩ <;> exact absurd x (Int.lt_irrefl _)
          rw [if_neg (fun y => ne (by obtain ⟨y1, y2⟩ := kk_inj y; rw [y1, y2]))]
          dsimp only
          rw [if_neg ne]
          exact (EV4.tl tt) p' q' z
        · have z : (p', q') = (b, e) := by simpa using z
          injection z with z1 z2
          subst z1 z2
          rw [if_pos rfl]
          dsimp only
          rw [if_pos rfl]
          exact ⟨lp, rfl, tt.2 _ _ hlp⟩
    · rintro σ H3 ⟨cl, ek, el, x4, x5, x6, x7, rfl, hdc3, hde3, ekl, EV, N, t3, s3⟩
      rw [List.take_of_length_le (by omega)] at EV N
      refine ⟨_, rfl, _, rfl, szle (by show 2 ≤ 100000; decide), fun t ht => ?_⟩
      have s4 : Same H3 (upd H3 t (.tup [.ref dc, .ref de])) := Rs.Same.new ht
      exact k t dc de cl ek el _ (s3.free ht) hdc upd_same (s4 _ _ hdc3) (s4 _ _ hde3) (EV.tl (TL.same s4)) N (s3.trans s4)
end Rs

namespace Rs
open PySem PySem.Spec PyProof.Rows L2
end Rs

namespace Rs
open PySem PySem.Spec PyProof.Rows L2
def RunE (S : List Addr) : Rel (List Pr) := fun H v xs => ∃ l, v = .ref l ∧ l ∉ S ∧ Lst PairAt H l xs
theorem RunE.same {S : List Addr} {H H' : Hp} {v : V} {xs : List Pr} (h : RunE S H v xs) (s : Same H H') : RunE S H' v xs := let ⟨l, a, b, c⟩ := h; ⟨l, a, b, c.same PairAt.st s⟩
theorem RunE.put {S : List Addr} {D : Addr} {H : Hp} {v : V} {xs : List Pr} {ys zs : List V} (h : RunE S H v xs) (e : H D = some (.lst ys)) (m : D ∈ S) : RunE S (upd H D (.lst zs)) v xs := let ⟨l, a, b, c⟩ := h; ⟨l, a, b, c.keep PairAt.st ((TupLe.refl H).list e) fun o q => up q fun z => b (by rw [z]; exact m)⟩
theorem RunE.more {S : List Addr} {D : Addr} {H : Hp} {v : V} {xs : List Pr} (h : RunE S H v xs) (n : H D = none) : RunE (D :: S) H v xs := by
  obtain ⟨l, a, b, c⟩ := h
  refine ⟨l, a, fun z => ?_, c⟩
  obtain ⟨_, e, _⟩ := c
  rcases List.mem_cons.mp z with z | z
  · rw [z, n] at e
    cases e
  · exact b z
end Rs

namespace Rs
open PySem PySem.Spec PyProof.Rows L2
theorem CInv.start (ls : List Int) : CInv ls.length (rows0 ls) (plans0 ls.length) := by
  refine ⟨fun r hr => ?_, fun q hq => ?_, ?_⟩
  · obtain ⟨i, hi, rfl⟩ := List.mem_map.mp hr
    exact ⟨_, List.mem_map_of_mem (f := fun (i : Nat) => ((i : Int), Pl.leaf (i : Int))) hi, rfl⟩
  · obtain ⟨i, hi, rfl⟩ := List.mem_map.mp hq
    have := List.mem_range.mp hi
    unfold plans0
    rw [List.length_map, List.length_range]
    show (i : Int) < _
    omega
  · unfold rows0
    rw [List.map_map]
    exact nodup_cast (l := List.range ls.length) List.nodup_range
end Rs

namespace Rs
open PySem PySem.Spec PyProof.Rows L2
section
variable {α β : Type} {R : Rel α} {S : Rel β} {H1 H' H4 : Hp} {D : Addr} {dn : List β} {y : V} {b : β}
theorem lcm_tup {K : PySem.W.Frag} {a : Addr} {vs : List V} {xs : List α} {g : TG} {tt : TT} {te : TE} {ws : List Nat} {σ : L2.St} {Qd : Hp → Prop} (f : α → Option β) (st : Stable S) (ha : H1 a = some (.tup vs)) (p : Paired (R H1) vs xs) (hD : H1 D = none)
    (turn : ∀ (j : Nat) (v : V) (x : α) (H' : Hp), xs[j]? = some x → vs[j]? = some v → R H1 v x → Same H1 H' → (∀ H4, Same H' H4 → f x = none → PvL S H1 D ((xs.take (j + 1)).filterMap f) H4) → (∀ H4 y b, Same H' H4 → f x = some b → S H4 y b → ∃ acc, H4 D = some (.lst acc) ∧ acc.length < sizeLine ∧ PvL S H1 D ((xs.take (j + 1)).filterMap f) (upd H4 D (.lst (acc ++ [y])))) →
      g v (wipe σ ws) H' fun σ2 H2 => wipe σ2 ws = wipe σ ws ∧ tt σ2 H2 fun b H3 => if b = true then te σ2 H3 fun y H4 => ∃ acc, H4 D = some (.lst acc) ∧ acc.length < sizeLine ∧ PvL S H1 D ((xs.take (j + 1)).filterMap f) (upd H4 D (.lst (acc ++ [y]))) else PvL S H1 D ((xs.take (j + 1)).filterMap f) H3)
    (hl : xs.length < 100000) (done : ∀ H', Lst S H' D (xs.filterMap f) → Same H1 H' → Qd H') :
    ∃ W : Nat → Nat → Hp → Prop, (∃ m, W 0 m (upd H1 D (.lst []))) ∧ ∀ i m H, W i m H →
      ((Itt K a).stop i H ∧ Qd H) ∨ ((Itt K a).go i H ∧ ∃ Nx : Hp → Prop, (∀ H', Nx H' → ∃ m', m' < m ∧ W (i + 1) m' H') ∧ ∀ x H', (Itt K a).yld i H x H' → g x (wipe σ ws) H' fun σ2 H2 => wipe σ2 ws = wipe σ ws ∧ tt σ2 H2 fun b H3 =>
        if b = true then te σ2 H3 fun y H4 => ∃ acc, H4 D = some (.lst acc) ∧ acc.length < sizeLine ∧ Nx (upd H4 D (.lst (acc ++ [y]))) else Nx H3) := by
  have lp := p.length
  refine lc_tup (K := K) (a := a) (xs := vs) (fun j H' => PvL S H1 D ((xs.take j).filterMap f) H') (lcStart hD) ?_ ?_ ?_
  · rintro j H' _ ⟨_, s⟩
    exact SqT.of (s _ _ ha)
  · rintro j v H' hj P
    obtain ⟨x, hx, r⟩ := P2.get p hj
    have hb : ((xs.take j).filterMap f).length < 100000 := by
      have := List.length_filterMap_le f (xs.take j)
      rw [List.length_take] at this
      omega
    refine turn j v x H' hx hj r P.2 (fun H4 s hf => ?_) (fun H4 y b s hf hy => ?_)
    · rw [take_fm hx, hf, Option.toList_none, List.append_nil]
      exact lcSkip st P s
    · rw [take_fm hx, hf]
      exact lcPut st hD P s hy hb
  · rintro H' ⟨L, s⟩
    rw [List.take_of_length_le (by omega)] at L
    exact done H' L s
end
def StrAt : Rel Str := fun _ v x => v = .str x
theorem StrAt.st : Stable StrAt := fun _ _ _ _ _ h => h
open _root_.TL
def numS (n : Int) : Str := Str.ofString (toString n)
mutual
def Pl.words : Pl → List Str
  | .leaf n => [numS n]
  | .node ps => ("(" : Str) :: (Pl.wordsL ps ++ [(")" : Str)])
def Pl.wordsL : List Pl → List Str
  | [] => []
  | p :: ps => p.words ++ Pl.wordsL ps
end
mutual
def Pl.text : Pl → Str
  | .leaf n => numS n
  | .node ps => (("( " : Str) ++ Txt.join (" " : Str) (Pl.textL ps)) ++ (" )" : Str)
def Pl.textL : List Pl → List Str
  | [] => []
  | p :: ps => p.text :: Pl.textL ps
end
end Rs

namespace Rs
open PySem PySem.Spec PyProof.Rows L2
theorem runsL_take (ps : List Pl) (j : Nat) : (Pl.runsL (ps.take j)).length ≤ (Pl.runsL ps).length := by
  have e : Pl.runsL ps = Pl.runsL (ps.take j) ++ Pl.runsL (ps.drop j) := by
    rw [Pl.runsL_map, Pl.runsL_map, Pl.runsL_map, ← List.flatten_append, ← List.map_append, List.take_append_drop]
  rw [e, List.length_append]
  omega
theorem runsL_snoc {ps : List Pl} {j : Nat} {p : Pl} (h : ps[j]? = some p) : Pl.runsL (ps.take (j + 1)) = Pl.runsL (ps.take j) ++ p.runs := by
  rw [List.take_succ, h, Pl.runsL_map, Pl.runsL_map, List.map_append, List.flatten_append]
  simp
mutual
def Pl.slim : Pl → Prop
  | .leaf _ => True
  | .node ps => ps.length ≤ 1000 ∧ Pl.slimL ps
def Pl.slimL : List Pl → Prop
  | [] => True
  | p :: ps => p.slim ∧ Pl.slimL ps
end
theorem Pl.slimL_of {ps : List Pl} (h : Pl.slimL ps) : ∀ p ∈ ps, p.slim := by
  induction ps with
  | nil => intro p hp; simp at hp
  | cons q ps ih =>
    rw [Pl.slimL] at h
    intro p hp
    rcases List.mem_cons.mp hp with e | e
    · rw [e]; exact h.1
    · exact ih h.2 p e
mutual
theorem Pl.slim_fits {w : Nat} (hw : w ≤ 1000) : ∀ p : Pl, p.fits w = true → p.slim
  | .leaf _, _ => trivial
  | .node ps, h => by
    rw [Pl.fits] at h
    simp only [Bool.and_eq_true, decide_eq_true_eq] at h
    exact ⟨by omega, Pl.slimL_fits hw ps h.2⟩
theorem Pl.slimL_fits {w : Nat} (hw : w ≤ 1000) : ∀ ps : List Pl, Pl.fitsL w ps = true → Pl.slimL ps
  | [], _ => trivial
  | p :: ps, h => by
    rw [Pl.fitsL] at h
    simp only [Bool.and_eq_true] at h
    exact ⟨Pl.slim_fits hw p h.1, Pl.slimL_fits hw ps h.2⟩
end
def sumOf (ls : List Int) (ids : List Int) : Int := (ids.map fun r => ls.getD r.toNat 0).sum
mutual
def Pl.cost (ls : List Int) : Pl → Int
  | .leaf _ => 0
  | .node ps => sumOf ls (Pl.runsL ps) + Pl.costL ls ps
def Pl.costL (ls : List Int) : List Pl → Int
  | [] => 0
  | p :: ps => p.cost ls + Pl.costL ls ps
end
theorem Pl.costL_map (ls : List Int) (ps : List Pl) : Pl.costL ls ps = (ps.map fun p => p.cost ls).sum := by
  induction ps with
  | nil => rfl
  | cons p ps ih => rw [Pl.costL, ih, List.map_cons, List.sum_cons]
theorem Pl.runs_sub {ps : List Pl} {p : Pl} (h : p ∈ ps) : p.runs.Sublist (Pl.runsL ps) := by
  rw [Pl.runsL_map]
  exact List.sublist_flatten_of_mem (List.mem_map_of_mem h)
theorem rng_len (n : Nat) : (rng 0 n).length = n := by
  unfold rng
  rw [List.length_map, List.length_range]
  omega
theorem rng_in {n : Nat} {r : Int} (h : r ∈ rng 0 n) : 0 ≤ r ∧ r < n := by
  obtain ⟨i, hi, rfl⟩ := List.mem_map.mp h
  have := List.mem_range.mp hi
  constructor <;> omega
end Rs

namespace Rs
open PySem PySem.Spec PyProof.Rows L2
open _root_.TL
end Rs

namespace Rs
open PySem PySem.Spec PyProof.Rows L2
open _root_.TL
theorem num_ne {n : Nat} (h : n < 100) : numS n ≠ ("(" : Str) ∧ numS n ≠ (")" : Str) ∧ numS n ≠ ("" : Str) := by
  have : ∀ n : Nat, n < 100 → numS n ≠ ("(" : Str) ∧ numS n ≠ (")" : Str) ∧ numS n ≠ ("" : Str) := by decide +kernel
  exact this n h
theorem Pl.first {p : Pl} (hr : ∀ r ∈ p.runs, 0 ≤ r ∧ r < 100) : ∃ w r, p.words = w :: r ∧ w ≠ (")" : Str) := by
  cases p with
  | leaf n =>
    obtain ⟨h0, h1⟩ := hr n (by simp [Pl.runs])
    have e : n = ((n.toNat : Nat) : Int) := by omega
    refine ⟨numS n, [], by rw [Pl.words], ?_⟩
    rw [e]
    exact (num_ne (by omega)).2.1
  | node ps => exact ⟨"(", _, by rw [Pl.words], by decide +kernel⟩
end Rs

namespace Rs
open PySem PySem.Spec PyProof.Rows L2
open _root_.TL
open _root_.TL
open _root_.TL
end Rs

namespace Rs
open PySem PySem.Spec PyProof.Rows L2
abbrev N_law_lengths : List Str := ["_law_box", "_law_most", "_law_found", "_law_k", "_law_some"]
abbrev P_law_lengths : List Str := ["_law_box", "_law_most"]
def sp_law_lengths (K : PySem.W.Frag) : Sp := fun vs H Q E => match vs with
  | [b, m] => ∃ a l n, b = .ref a ∧ m = .int n ∧ 1 ≤ n ∧ n ≤ 40 ∧ Box H a l ∧ ∀ f (ls : List Int) H', H f = none → H' f = some (.lst (ls.map V.int)) → GoodLens ls → ls.length ≤ n → Box H' a l → But [a, l] H H' → Q (.ref f) H'
  | _ => False
def t_law_lengths (K : PySem.W.Frag) (E : XK) : TS := (tSeq (tAsg (tLst tNil) (gName 2))
  (tSeq (tFor (iRng1 (tCons (tOpD xAdd (.int 1) (tCall (sp_law_take K) [] E (tCons (tVar 0) (tCons (tVar 1) tNil)))) tNil)) (gName 3) 
     (tSeq (tAsg (tLst (tCons (tOpD xAdd (.int 1) (tCall (sp_law_take K) [] E (tCons (tVar 0) (tConsC (.int 9) tNil)))) (tCons (tOpD xAdd (.int 1) (tCall (sp_law_take K) [] E (tCons (tVar 0) (tConsC (.int 2) tNil)))) (tCons (tOpC xAdd (tVar 3) (.int 1)) (tCons (tOpD xAdd (.int 1) (tCall (sp_law_take K) [] E (tCons (tVar 0) (tCons (tOpC xPow (tC (.int 10)) (.int 6)) tNil)))) (tCons (tOpC xPow (tC (.int 10)) (.int 6)) tNil)))))) (gName 4))
     (tDrop (tBM K "list" rAppend (tVar 2) (tCons (tOp (rIxL K) (tVar 4) (tOp (rIxL K) (tLst (tConsC (.int 0) (tConsC (.int 0) (tConsC (.int 1) (tConsC (.int 2) (tConsC (.int 3) (tConsC (.int 4) tNil))))))) (tCall (sp_law_take K) [] E (tCons (tVar 0) (tConsC (.int 6) tNil))))) tNil)))))
   (tRet (tVar 2))))
theorem pure_law_lengths {K : PySem.W.Frag} : ∀ vs H Q E, sp_law_lengths K vs H Q E → t_law_lengths K E { nx := fun _ H' => Q .non H', rt := Q } (start N_law_lengths vs) H := by
  intro vs H Q E hyp
  match vs, hyp with
  | [b, m], hyp =>
    obtain ⟨a, l, n, rfl, rfl, n1, n2, B, k⟩ := hyp
    obtain ⟨ns, st, ha, hl, _⟩ := B.ex
    refine ⟨sz0, fun f hf => ?_⟩
    have fa := (ne_of_none ha hf).symm
    have fl := (ne_of_none hl hf).symm
    refine ⟨_, rfl, _, rfl, a, l, _, rfl, rfl, by omega, by omega, B.same (Rs.Same.new hf), fun r H1 r0 r1 B1 k1 => ⟨_, _, rfl, rfl, _, rfl, by omega, by omega, ?_⟩⟩
    have kk : But [a, l] H H1 := (But.same (Rs.Same.new hf)).trans k1
    have ef := k1 _ _ upd_same (nn fa fl)
    refine for_range (lo := 0) (n := (1 + r).toNat) (fun i σ H' => ∃ (ls : List Int) (x3 x4 : Option V), σ = [some (.ref a), some (.int n), some (.ref f), x3, x4] ∧ H' f = some (.lst (ls.map V.int)) ∧ ls.length = i ∧ (∀ x ∈ ls, 1 ≤ x ∧ x ≤ 1000000) ∧ Box H' a l ∧ But [a, l] H H') ⟨[], none, none, rfl, ef, rfl, by simp, B1, kk⟩ ?_ ?_
    · rintro i σ H2 hi ⟨ls, x3, x4, rfl, ef2, hlen, hall, B2, k2⟩
      refine ⟨_, rfl, a, l, _, rfl, rfl, by decide, by decide, B2, fun g1 H3 g10 g11 B3 k3 => ⟨_, _, rfl, rfl, ?_⟩⟩
      refine ⟨_, rfl, a, l, _, rfl, rfl, by decide, by decide, B3, fun g2 H4 g20 g21 B4 k4 => ⟨_, _, rfl, rfl, ?_⟩⟩
      refine ⟨_, rfl, _, _, rfl, rfl, ?_⟩
      refine ⟨_, rfl, _, _, rfl, rfl, ⟨by decide, by decide, by decide⟩, a, l, _, rfl, rfl, by decide, by decide, B4, fun g3 H5 g30 g31 B5 k5 => ⟨_, _, rfl, rfl, ?_⟩⟩
      refine ⟨_, _, rfl, rfl, ⟨by decide, by decide, by decide⟩, szle (by show 5 ≤ 100000; decide), fun s hs => ?_⟩
      have k25 := (k3.trans k4).trans k5
      have s6 : Same H5 (upd H5 s (.lst [.int (1 + g1), .int (1 + g2), .int (0 + (i : Int) + 1), .int (1 + g3), .int (10 ^ (6 : Int).toNat)])) := Rs.Same.new hs
      have es : upd H5 s (.lst [.int (1 + g1), .int (1 + g2), .int (0 + (i : Int) + 1), .int (1 + g3), .int (10 ^ (6 : Int).toNat)]) s = some _ := upd_same
      generalize upd H5 s (.lst [.int (1 + g1), .int (1 + g2), .int (0 + (i : Int) + 1), .int (1 + g3), .int (10 ^ (6 : Int).toNat)]) = H6 at s6 es ⊢
      have B6 := B5.same s6
      have k26 := k25.trans (But.same s6)
      obtain ⟨_, _, ha5, hl5, _⟩ := B5.ex
      have sa := (ne_of_none ha5 hs).symm
      have sl := (ne_of_none hl5 hs).symm
      have ef6 := k26 _ _ ef2 (nn fa fl)
      refine ⟨_, rfl, .inl ⟨rfl, _, SqL.of ef6⟩, _, rfl, szle (by show 6 ≤ 100000; decide), fun q hq => ?_⟩
      have s7 : Same H6 (upd H6 q (.lst [.int 0, .int 0, .int 1, .int 2, .int 3, .int 4])) := Rs.Same.new hq
      have eq : upd H6 q (.lst [.int 0, .int 0, .int 1, .int 2, .int 3, .int 4]) q = some _ := upd_same
      generalize upd H6 q (.lst [.int 0, .int 0, .int 1, .int 2, .int 3, .int 4]) = H7 at s7 eq ⊢
      have B7 := B6.same s7
      obtain ⟨_, _, ha6, hl6, _⟩ := B6.ex
      have qa := (ne_of_none ha6 hq).symm
      have ql := (ne_of_none hl6 hq).symm
      refine ⟨_, rfl, a, l, _, rfl, rfl, by decide, by decide, B7, fun g4 H8 g40 g41 B8 k8 => ?_⟩
      have eq8 := k8 _ _ eq (nn qa ql)
      have es8 := k8 _ _ (s7 _ _ es) (nn sa sl)
      have k28 := (k26.trans (But.same s7)).trans k8
      have ef8 := k28 _ _ ef2 (nn fa fl)
      have fin : ∀ (i1 : Nat) (x : Int), ([V.int 0, .int 0, .int 1, .int 2, .int 3, .int 4] : List V)[g4.toNat]? = some (.int (i1 : Int)) → ([.int (1 + g1), .int (1 + g2), .int (0 + (i : Int) + 1), .int (1 + g3), .int (10 ^ (6 : Int).toNat)] : List V)[i1]? = some (.int x) → 1 ≤ x → x ≤ 1000000 →
          rIxL K (.ref q) (.int g4) H8 (fun w H9 => rIxL K (.ref s) w H9 (fun v H10 => rAppend (.ref f) [v] H10 fun _ H11 => ∃ (ls : List Int) (x3 x4 : Option V), [some (V.ref a), some (V.int n), some (V.ref f), some (V.int (0 + (i : Int))), some (V.ref s)] = [some (V.ref a), some (V.int n), some (V.ref f), x3, x4] ∧ H11 f = some (.lst (ls.map V.int)) ∧ ls.length = i + 1 ∧ (∀ x ∈ ls, 1 ≤ x ∧ x ≤ 1000000) ∧ Box H11 a l ∧ But [a, l] H H11)) := fun i1 x e1 e2 x1 x2 => by
        refine ixL eq8 (j := g4.toNat) (by omega) e1 (ixL es8 (j := i1) rfl e2 ⟨_, _, _, rfl, rfl, ef8, szlt (by rw [List.length_map]; omega), ls ++ [x], _, _, rfl, by rw [upd_same, List.map_append] <;> rfl, by simp [hlen], fun y hy => ?_, B8.keep (fun o e => up e fa.symm) (fun o e => up e fl.symm), (k2.trans k28).mut hf⟩)
        rcases List.mem_append.mp hy with hy | hy
        · exact hall y hy
        · rw [List.mem_singleton.mp hy]
          exact ⟨x1, x2⟩
      have pick : g4 = 0 ∨ g4 = 1 ∨ g4 = 2 ∨ g4 = 3 ∨ g4 = 4 ∨ g4 = 5 := by omega
      have p10 : ((10 : Int) ^ (6 : Int).toNat) = 1000000 := by decide
      rcases pick with e | e | e | e | e | e
      · subst e; exact fin 0 _ rfl rfl (by omega) (by omega)
      · subst e; exact fin 0 _ rfl rfl (by omega) (by omega)
      · subst e; exact fin 1 _ rfl rfl (by omega) (by omega)
      · subst e; exact fin 2 _ rfl rfl (by omega) (by omega)
      · subst e; exact fin 3 _ rfl rfl (by omega) (by omega)
      · subst e; exact fin 4 _ rfl rfl (by rw [p10]; decide) (by rw [p10]; decide)
    · rintro σ H2 ⟨ls, x3, x4, rfl, ef2, hlen, hall, B2, k2⟩
      exact ⟨_, rfl, k f ls H2 hf ef2 ⟨by omega, by omega, hall⟩ (by omega) B2 k2⟩
theorem leaf_paired {H : Hp} : ∀ ids : List Int, Paired (PlR H) (ids.map V.int) (ids.map Pl.leaf)
  | [] => .nil
  | x :: ids => .cons (.leaf x) (leaf_paired ids)
theorem leaf_runs : ∀ ids : List Int, Pl.runsL (ids.map Pl.leaf) = ids
  | [] => rfl
  | x :: ids => by rw [List.map_cons, Pl.runsL, leaf_runs ids, Pl.runs]; rfl
theorem runsL_app (a b : List Pl) : Pl.runsL (a ++ b) = Pl.runsL a ++ Pl.runsL b := by
  rw [Pl.runsL_map, Pl.runsL_map, Pl.runsL_map, List.map_append, List.flatten_append]
end Rs

namespace Rs
open PySem PySem.Spec PyProof.Rows L2
def insI (x : Int) : List Int → List Int
  | [] => [x]
  | y :: ys => if x ≤ y then x :: y :: ys else y :: insI x ys
def srtI : List Int → List Int
  | [] => []
  | x :: xs => insI x (srtI xs)
def kd (w D : Nat) (ds : List Nat) : Nat := (ds.map fun d => w ^ (D - d)).sum
def Kr (w : Nat) (ds : List Nat) : Prop := ∃ D, (∀ d ∈ ds, d ≤ D) ∧ kd w D ds ≤ w ^ D
theorem kd_cons (w D d : Nat) (ds : List Nat) : kd w D (d :: ds) = w ^ (D - d) + kd w D ds := by
  unfold kd
  rw [List.map_cons, List.sum_cons]
theorem kd_up {w D : Nat} : ∀ {ds : List Nat}, (∀ d ∈ ds, d ≤ D) → kd w (D + 1) ds = w * kd w D ds
  | [], _ => by simp [kd]
  | d :: ds, h => by
    have ih := kd_up (w := w) (D := D) (ds := ds) fun x hx => h x (List.mem_cons_of_mem _ hx)
    have hd := h d (List.mem_cons_self ..)
    rw [kd_cons, kd_cons, ih, Nat.mul_add, show D + 1 - d = (D - d) + 1 by omega, Nat.pow_succ, Nat.mul_comm (w ^ (D - d))]
theorem Kr.least {w : Nat} (hw : 0 < w) {ds : List Nat} (ne : ds ≠ []) : ∀ D, (∀ d ∈ ds, d ≤ D) → kd w D ds ≤ w ^ D → ∃ D, (∀ d ∈ ds, d ≤ D) ∧ D ∈ ds ∧ kd w D ds ≤ w ^ D
  | 0, h, k => by
    cases ds with
    | nil => exact absurd rfl ne
    | cons d ds =>
      have := h d (List.mem_cons_self ..)
      exact ⟨0, h, by rw [show d = 0 by omega]; exact List.mem_cons_self .., k⟩
  | D + 1, h, k => by
    by_cases z : D + 1 ∈ ds
    · exact ⟨D + 1, h, z, k⟩
    · have h' : ∀ d ∈ ds, d ≤ D := fun d hd => by
        have := h d hd
        have : d ≠ D + 1 := fun e => z (by rw [← e]; exact hd)
        omega
      rw [kd_up h', Nat.pow_succ, Nat.mul_comm (w ^ D)] at k
      exact Kr.least hw ne D h' (Nat.le_of_mul_le_mul_left k hw)
def gl (w : Nat) : Nat → List Int → Int
  | 0, _ => 0
  | m + 1, xs => if 1 < xs.length then (xs.take (hm xs.length w)).sum + gl w m (srtI (xs.drop (hm xs.length w) ++ [(xs.take (hm xs.length w)).sum])) else 0
end Rs

namespace Rs
open PySem PySem.Spec PyProof.Rows L2
theorem rng_get (ls : List Int) : (rng 0 ls.length).map (fun r => ls.getD r.toNat 0) = ls := by
  unfold rng
  rw [List.map_map]
  refine List.ext_getElem? fun i => ?_
  rw [List.getElem?_map]
  by_cases h : i < ls.length
  · rw [List.getElem?_range (by omega), List.getElem?_eq_getElem h]
    show some (ls.getD (0 + (i : Int)).toNat 0) = _
    have : (0 + (i : Int)).toNat = i := by omega
    rw [this, getD_lt h]
  · rw [List.getElem?_eq_none (by rw [List.length_range]; omega), List.getElem?_eq_none (by omega)]
    rfl
end Rs

namespace Rs
open PySem PySem.Spec PyProof.Rows L2
abbrev N_law_in : List Str := ["_law_plan_here", "_law_found", "_law_part"]
abbrev P_law_in : List Str := ["_law_plan_here"]
def spr_law_in (K : PySem.W.Frag) (d : Nat) : Sp := fun vs H Q E => match vs with
  | [pv] => ∃ pl, PlR H pv pl ∧ pl.depth < d ∧ pl.runs.length ≤ 1000 ∧ ∀ l H', H l = none → H' l = some (.lst (pl.runs.map V.int)) → Same H H' → Q (.ref l) H'
  | _ => False
abbrev sp_law_in (K : PySem.W.Frag) : Sp := spr_law_in K 42
theorem no_law_in (K : PySem.W.Frag) : ∀ vs H Q E, ¬ spr_law_in K 0 vs H Q E := fun vs H Q E h => by
  unfold spr_law_in at h
  match vs, h with
  | [_], ⟨_, _, h1, _⟩ => omega
theorem len_law_in (K : PySem.W.Frag) : ∀ d vs H Q E, spr_law_in K d vs H Q E → vs.length = 1 := fun d vs H Q E h => by
  unfold spr_law_in at h
  match vs, h with
  | [_], _ => rfl
def t_law_in (K : PySem.W.Frag) (sp : Sp) (E : XK) : TS := (tSeq (tIfS (tNot (tB (tIsi K "tuple" (tVar 0)))) (tRet (tLst (tCons (tVar 0) tNil))) tNext)
  (tSeq (tAsg (tLst tNil) (gName 1))
   (tSeq (tFor (iTup K (tVar 0)) (gName 2) (tDrop (tBM K "list" rExtend (tVar 1) (tCons (tCall sp [] E (tCons (tVar 2) tNil)) tNil))))
    (tRet (tVar 1)))))
theorem pure_law_in {K : PySem.W.Frag} (d : Nat) : ∀ vs H Q E, spr_law_in K (d + 1) vs H Q E → t_law_in K (spr_law_in K d) E { nx := fun _ H' => Q .non H', rt := Q } (start N_law_in vs) H := by
  intro vs H Q E hyp
  unfold spr_law_in at hyp
  match vs, hyp with
  | [pv], hyp =>
    obtain ⟨pl, hp, hd, hl, k⟩ := hyp
    cases pl with
    | leaf n =>
      have e := PlR.unleaf hp
      subst e
      refine ⟨_, rfl, isi_go (t := "int") (b := false) (.base (.int n)) (by decide +kernel) ⟨_, rfl, _, rfl, szle (by show 1 ≤ 100000; decide), fun l hl => ?_⟩⟩
      exact k l _ hl upd_same (Rs.Same.new hl)
    | node ps =>
      obtain ⟨a, tv, rfl, et, pt⟩ := PlR.unnode hp
      rw [Pl.depth] at hd
      rw [Pl.runs] at hl k
      refine ⟨_, rfl, isi_go (t := "tuple") (b := true) (tyT (SqT.of et)) (by decide +kernel) ⟨_, rfl, ?_⟩⟩
      refine ⟨sz0, fun f hf => ?_⟩
      refine ⟨_, rfl, a, rfl, ⟨_, SqT.of ((Rs.Same.new hf) _ _ et)⟩, ?_⟩
      refine for_tup (K := K) (a := a) (xs := tv) (fun j σ H' => ∃ x2, σ = [some (.ref a), some (.ref f), x2] ∧ H' f = some (.lst ((Pl.runsL (ps.take j)).map V.int)) ∧ Same H H') ⟨none, rfl, upd_same, Rs.Same.new hf⟩ ?_ ?_ ?_
      · rintro j σ H' _ ⟨_, _, _, s⟩
        exact SqT.of (s _ _ et)
      · rintro j v σ H' hj ⟨x2, rfl, ef, s⟩
        obtain ⟨p, hp, hpv⟩ := P2.get pt hj
        have dl := Pl.depthL_le (List.mem_of_getElem? hp)
        have b1 := runsL_take ps (j + 1)
        rw [runsL_snoc hp, List.length_append] at b1
        refine ⟨_, rfl, .inl ⟨rfl, _, SqL.of ef⟩, _, rfl, p, PlR.st _ _ _ _ (TupLe.same s) hpv, by omega, by omega, fun l H2 hl2 el s2 => ?_⟩
        have ef2 := s2 _ _ ef
        refine ⟨f, l, _, _, rfl, rfl, ef2, el, szle (by rw [List.length_map, List.length_map]; omega), _, rfl, ?_, Rs.Same.mut (s.trans s2) hf⟩
        rw [upd_same, runsL_snoc hp, List.map_append]
      · rintro σ H' ⟨x2, rfl, ef, s⟩
        rw [List.take_of_length_le (by rw [pt.length]; exact Nat.le_refl _)] at ef
        exact ⟨_, rfl, k f H' hf ef s⟩
abbrev N_law_cost : List Str := ["_law_lengths_here", "_law_plan_here", "_law_inner", "_law_part", "_law_run"]
abbrev P_law_cost : List Str := ["_law_lengths_here", "_law_plan_here"]
def spr_law_cost (K : PySem.W.Frag) (d : Nat) : Sp := fun vs H Q E => match vs with
  | [lv, pv] => ∃ (l : Addr) (ls : List Int) (pl : Pl), lv = .ref l ∧ H l = some (.lst (ls.map V.int)) ∧ PlR H pv pl ∧ pl.depth < d ∧ pl.depth < 42 ∧ pl.slim ∧ pl.runs.length ≤ 1000 ∧ (∀ r ∈ pl.runs, 0 ≤ r ∧ r < ls.length) ∧ ∀ H', Same H H' → Q (.int (pl.cost ls)) H'
  | _ => False
abbrev sp_law_cost (K : PySem.W.Frag) : Sp := spr_law_cost K 42
theorem no_law_cost (K : PySem.W.Frag) : ∀ vs H Q E, ¬ spr_law_cost K 0 vs H Q E := fun vs H Q E h => by
  unfold spr_law_cost at h
  match vs, h with
  | [_, _], ⟨_, _, _, _, _, _, h1, _⟩ => omega
theorem len_law_cost (K : PySem.W.Frag) : ∀ d vs H Q E, spr_law_cost K d vs H Q E → vs.length = 2 := fun d vs H Q E h => by
  unfold spr_law_cost at h
  match vs, h with
  | [_, _], _ => rfl
def t_law_cost (K : PySem.W.Frag) (sp : Sp) (E : XK) : TS := (tSeq (tIfS (tNot (tB (tIsi K "tuple" (tVar 1)))) (tRet (tC (.int 0))) tNext)
  (tSeq (tAsg (tCB1 (rSum K) (tLc (iTup K (tVar 1)) (gName 3) tYes (tCall sp [] E0 (tCons (tVar 0) (tCons (tVar 3) tNil))) [3])) (gName 2))
   (tRet (tOp xAdd (tVar 2) (tCB1 (rSum K) (tLc (iList K (tCall (sp_law_in K) [] E (tCons (tVar 1) tNil))) (gName 4) tYes (tOp (rIxL K) (tVar 0) (tVar 4)) [4]))))))
theorem pure_law_cost {K : PySem.W.Frag} (d : Nat) : ∀ vs H Q E, spr_law_cost K (d + 1) vs H Q E → t_law_cost K (spr_law_cost K d) E { nx := fun _ H' => Q .non H', rt := Q } (start N_law_cost vs) H := by
  intro vs H Q E hyp
  unfold spr_law_cost at hyp
  match vs, hyp with
  | [lv, pv], hyp =>
    obtain ⟨l, ls, pl, rfl, hl, hp, hd, hd2, sl, hn, hin, k⟩ := hyp
    cases pl with
    | leaf n =>
      have e := PlR.unleaf hp
      subst e
      exact ⟨_, rfl, isi_go (t := "int") (b := false) (.base (.int n)) (by decide +kernel) ⟨_, rfl, k H (Same.refl H)⟩⟩
    | node ps =>
      have hp0 := hp
      obtain ⟨a, tv, rfl, et, pt⟩ := PlR.unnode hp
      have dn : (Pl.node ps).depth = Pl.depthL ps + 1 := by rw [Pl.depth]
      have rn : (Pl.node ps).runs = Pl.runsL ps := by rw [Pl.runs]
      rw [Pl.slim] at sl
      have sls := Pl.slimL_of sl.2
      have lt := pt.length
      refine ⟨_, rfl, isi_go (t := "tuple") (b := true) (tyT (SqT.of et)) (by decide +kernel) ⟨_, rfl, ?_⟩⟩
      refine ⟨_, rfl, a, rfl, ⟨_, SqT.of et⟩, fun D hD => ?_⟩
      refine lcm_tup (S := IntAt) (fun p : Pl => some (p.cost ls)) IntAt.st et pt hD ?_ (by omega) ?_
      · intro j v x H' hx hj r s skip put
        have xm := List.mem_of_getElem? hx
        have dl := Pl.depthL_le xm
        have sb := Pl.runs_sub xm
        have sbl := sb.length_le
        rw [rn] at hn hin
        exact ⟨rfl, lc_yes ⟨_, rfl, _, rfl, l, ls, x, rfl, s _ _ hl, PlR.st _ _ _ _ (TupLe.same s) r, by omega, by omega, sls x xm, by omega, fun q hq => hin q (sb.subset hq), fun H2 s2 => put H2 _ _ s2 rfl rfl⟩⟩
      · intro H2 L s
        rw [fm_some] at L
        refine ⟨D, _, rfl, SqL.of (Lst.ints.mp L), ?_⟩
        refine ⟨_, rfl, _, rfl, .node ps, PlR.st _ _ _ _ (TupLe.same s) hp0, hd2, hn, fun lr H3 hlr er s3 => ?_⟩
        have s13 := s.trans s3
        refine ⟨lr, rfl, ⟨_, SqL.of er⟩, fun D2 hD2 => ?_⟩
        refine lcm_list (S := IntAt) (fun r : Int => some (ls.getD r.toNat 0)) IntAt.st er (ints_paired _) hD2 ?_ (by omega) ?_
        · intro j v x H' hx hj r s skip put
          have ev : v = .int x := r
          subst ev
          obtain ⟨h0, h1⟩ := hin x (List.mem_of_getElem? hx)
          refine ⟨rfl, lc_yes ⟨_, rfl, _, rfl, ixL ((s13.trans s) _ _ hl) (j := x.toNat) (by omega) (v := .int (ls.getD x.toNat 0)) ?_ (put H' _ _ (Same.refl _) rfl rfl)⟩⟩
          rw [List.getElem?_map, List.getElem?_eq_getElem (by omega), getD_lt (by omega)]
          rfl
        · intro H4 L4 s4
          rw [fm_some] at L4
          refine ⟨D2, _, rfl, SqL.of (Lst.ints.mp L4), _, _, rfl, rfl, ?_⟩
          have e : (ps.map fun p => p.cost ls).sum + ((Pl.node ps).runs.map fun r => ls.getD r.toNat 0).sum = (Pl.node ps).cost ls := by
            rw [Pl.cost, Pl.costL_map, rn, Int.add_comm]
            rfl
          dsimp only
          rw [e]
          exact k H4 (s13.trans s4)
def Full (w n : Nat) : Prop := n = 1 ∨ (2 ≤ n ∧ hm n w = w)
theorem Full.le {w n : Nat} (hw : 2 ≤ w) (h : Full w n) (hn : 2 ≤ n) : w ≤ n := by
  rcases h with h | ⟨_, h⟩
  · omega
  · have := (hm_le hn hw).2.1
    omega
end Rs

namespace Rs
open PySem PySem.Spec PyProof.Rows L2
mutual
def Pl.wc : Pl → Int
  | .leaf _ => 0
  | .node ps => (Pl.runsL ps).sum + Pl.wcL ps
def Pl.wcL : List Pl → Int
  | [] => 0
  | p :: ps => p.wc + Pl.wcL ps
end
mutual
def Pl.sub (f : Int → Int) : Pl → Pl
  | .leaf n => .leaf (f n)
  | .node ps => .node (Pl.subL f ps)
def Pl.subL (f : Int → Int) : List Pl → List Pl
  | [] => []
  | p :: ps => p.sub f :: Pl.subL f ps
end
theorem Pl.subL_len (f : Int → Int) : ∀ ps, (Pl.subL f ps).length = ps.length
  | [] => rfl
  | p :: ps => by rw [Pl.subL, List.length_cons, Pl.subL_len f ps, List.length_cons]
mutual
theorem Pl.sub_runs (f : Int → Int) : ∀ p : Pl, (p.sub f).runs = p.runs.map f
  | .leaf n => by rw [Pl.sub, Pl.runs, Pl.runs]; rfl
  | .node ps => by rw [Pl.sub, Pl.runs, Pl.runs]; exact Pl.subL_runs f ps
theorem Pl.subL_runs (f : Int → Int) : ∀ ps : List Pl, Pl.runsL (Pl.subL f ps) = (Pl.runsL ps).map f
  | [] => rfl
  | p :: ps => by rw [Pl.subL, Pl.runsL, Pl.runsL, Pl.sub_runs f p, Pl.subL_runs f ps, List.map_append]
end
mutual
theorem Pl.sub_fits (f : Int → Int) {w : Nat} : ∀ p : Pl, (p.sub f).fits w = p.fits w
  | .leaf n => by rw [Pl.sub, Pl.fits, Pl.fits]
  | .node ps => by rw [Pl.sub, Pl.fits, Pl.fits, Pl.subL_len, Pl.subL_fits f ps]
theorem Pl.subL_fits (f : Int → Int) {w : Nat} : ∀ ps : List Pl, Pl.fitsL w (Pl.subL f ps) = Pl.fitsL w ps
  | [] => rfl
  | p :: ps => by rw [Pl.subL, Pl.fitsL, Pl.fitsL, Pl.sub_fits f p, Pl.subL_fits f ps]
end
mutual
theorem Pl.sub_wc (ls : List Int) : ∀ p : Pl, (p.sub fun r => ls.getD r.toNat 0).wc = p.cost ls
  | .leaf n => by rw [Pl.sub, Pl.wc, Pl.cost]
  | .node ps => by
    rw [Pl.sub, Pl.wc, Pl.cost, Pl.subL_runs, Pl.subL_wc ls ps]
    rfl
theorem Pl.subL_wc (ls : List Int) : ∀ ps : List Pl, Pl.wcL (Pl.subL (fun r => ls.getD r.toNat 0) ps) = Pl.costL ls ps
  | [] => rfl
  | p :: ps => by rw [Pl.subL, Pl.wcL, Pl.costL, Pl.sub_wc ls p, Pl.subL_wc ls ps]
end
structure NOpt (w : Nat) (ls : List Int) (v : Int) : Prop where
  got : ∃ pl : Pl, pl.fits w = true ∧ pl.runs = ls ∧ pl.wc = v
  min : ∀ pl : Pl, pl.fits w = true → pl.runs = ls → v ≤ pl.wc
theorem NOpt.uniq {w : Nat} {ls : List Int} {u v : Int} (a : NOpt w ls u) (b : NOpt w ls v) : u = v := by
  obtain ⟨p, p1, p2, p3⟩ := a.got
  obtain ⟨q, q1, q2, q3⟩ := b.got
  have := a.min q q1 q2
  have := b.min p p1 p2
  omega
theorem Pl.runs_pos {w : Nat} (p : Pl) (f : p.fits w = true) : 1 ≤ p.runs.length := by
  have := Pl.deep p f
  omega
theorem Pl.one_leaf {w : Nat} {p : Pl} {x : Int} (f : p.fits w = true) (h : p.runs = [x]) : p = .leaf x := by
  cases p with
  | leaf n =>
    rw [Pl.runs] at h
    injection h with h
    rw [h]
  | node ps =>
    exfalso
    rw [Pl.fits] at f
    simp only [Bool.and_eq_true, decide_eq_true_eq] at f
    have := Pl.deepL ps f.2
    rw [Pl.runs] at h
    rw [h, List.length_singleton] at this
    omega
theorem leaves_fits {w : Nat} : ∀ M : List Int, Pl.fitsL w (M.map Pl.leaf) = true
  | [] => rfl
  | x :: M => by rw [List.map_cons, Pl.fitsL, leaves_fits M, Pl.fits]; rfl
theorem fitsL_app {w : Nat} (a b : List Pl) : Pl.fitsL w (a ++ b) = (Pl.fitsL w a && Pl.fitsL w b) := by
  rw [Pl.fitsL_all, Pl.fitsL_all, Pl.fitsL_all, List.all_append]
end Rs

namespace Rs
open PySem PySem.Spec PyProof.Rows L2
theorem segL_len {ls : List Int} {b e : Int} (h0 : 0 ≤ b) (h1 : b ≤ e) (h2 : e ≤ ls.length) : ((segL ls b e).length : Int) = e - b := by
  unfold segL
  rw [List.length_take, List.length_drop]
  omega
theorem segL_app {ls : List Int} {b p e : Int} (h0 : 0 ≤ b) (h1 : b ≤ p) (h2 : p ≤ e) : segL ls b p ++ segL ls p e = segL ls b e := by
  unfold segL
  have e1 : e.toNat - b.toNat = (p.toNat - b.toNat) + (e.toNat - p.toNat) := by omega
  rw [e1, List.take_add, List.drop_drop, show b.toNat + (p.toNat - b.toNat) = p.toNat by omega]
theorem segL_all (ls : List Int) : segL ls 0 (ls.length : Int) = ls := by
  unfold segL
  show (ls.drop 0).take _ = ls
  rw [List.drop_zero, List.take_of_length_le (by omega)]
theorem segL_one {ls : List Int} {b : Int} (h0 : 0 ≤ b) (h1 : b + 1 ≤ ls.length) : ∃ x, segL ls b (b + 1) = [x] := by
  have := segL_len (ls := ls) h0 (show b ≤ b + 1 by omega) h1
  exact List.length_eq_one_iff.mp (by omega)
section
variable {w : Nat} {ls : List Int} {c : Int → Int → Int}
end
end Rs

namespace Rs
open PySem PySem.Spec PyProof.Rows L2
open LamX
abbrev N_law_class : List Str := ["_law_e", "_law_kinds", "_law_words"]
abbrev P_law_class : List Str := ["_law_e"]
def t_law_class (K : PySem.W.Frag) (D a : Addr) (d : Option Addr) : TS := (tSeq (tAsg (tLst (tCons (tCB (rIsX K D a d) (tCons (tVar 0) (tConsC (.ref (He.ga K "BadKinds")) tNil))) (tCons (tCB (rIsX K D a d) (tCons (tVar 0) (tConsC (.ref (He.ga K "BadOrder")) tNil))) (tCons (tCB (rIsX K D a d) (tCons (tVar 0) (tConsC (.ref (He.ga K "BadRows")) tNil))) (tCons (tCB (rIsX K D a d) (tCons (tVar 0) (tConsC (.ref (He.ga K "BadRuns")) tNil))) tNil))))) (gName 1))
  (tSeq (tAsg (tOp rCat (tVar 1) (tLst (tCons (tCB (rIsX K D a d) (tCons (tVar 0) (tConsC (.ref (He.ga K "BadRoom")) tNil))) (tCons (tCB (rIsX K D a d) (tCons (tVar 0) (tConsC (.ref (He.ga K "BadLengths")) tNil))) (tCons (tCB (rIsX K D a d) (tCons (tVar 0) (tConsC (.ref (He.ga K "BadPlan")) tNil))) (tCons (tCB (rIsX K D a d) (tCons (tVar 0) (tConsC (.ref (He.ga K "BadPaper")) tNil))) tNil)))))) (gName 1))
   (tSeq (tAsg (tOp rCat (tVar 1) (tLst (tCons (tCB (rIsX K D a d) (tCons (tVar 0) (tConsC (.ref (He.ga K "BadCount")) tNil))) (tCons (tCB (rIsX K D a d) (tCons (tVar 0) (tConsC (.ref (He.ga K "BadBlock")) tNil))) (tCons (tCB (rIsX K D a d) (tCons (tVar 0) (tConsC (.ref (He.ga K "Stopped")) tNil))) (tCons (tCB (rIsX K D a d) (tCons (tVar 0) (tConsC (.ref (He.ga K "Shut")) tNil))) tNil)))))) (gName 1))
    (tSeq (tAsg (tOp rCat (tVar 1) (tLst (tCons (tCB (rIsX K D a d) (tCons (tVar 0) (tConsC (.ref (He.ga K "NotYet")) tNil))) (tCons (tCB (rIsX K D a d) (tCons (tVar 0) (tConsC (.ref (He.ga K "Empty")) tNil))) (tCons (tCB (rIsX K D a d) (tCons (tVar 0) (tConsC (.ref (He.ga K "BadText")) tNil))) tNil))))) (gName 1))
     (tSeq (tAsg (tLst (tConsC (.str "BadKinds") (tConsC (.str "BadOrder") (tConsC (.str "BadRows") (tConsC (.str "BadRuns") (tConsC (.str "BadRoom") (tConsC (.str "BadLengths") (tConsC (.str "BadPlan") (tConsC (.str "BadPaper") (tConsC (.str "BadCount") tNil)))))))))) (gName 2))
      (tSeq (tAsg (tOp rCat (tVar 2) (tLst (tConsC (.str "BadBlock") (tConsC (.str "Stopped") (tConsC (.str "Shut") (tConsC (.str "NotYet") (tConsC (.str "Empty") (tConsC (.str "BadText") tNil)))))))) (gName 2))
       (tRet (tIf (tAnd (tTest (tOpC rEq (tBM K "list" (xCount K) (tVar 1) (tConsC (.bl true) tNil)) (.int 1))) (tB (tCB (rIsX K D a d) (tCons (tVar 0) (tConsC (.ty "ValueError") tNil))))) (tOp (rIxL K) (tVar 2) (tBM K "list" (rIndex K) (tVar 1) (tConsC (.bl true) tNil))) (tC (.str ""))))))))))
theorem DictOk.same {d : Option Addr} {H H' : Hp} (h : DictOk d H) (s : Same H H') : DictOk d H' := fun dd e => let ⟨fs, q⟩ := h dd e; ⟨fs, s _ _ q⟩
def truths (x : Str) : List V := errNames.map fun y => V.bl (decide (x = y))
theorem names_nd : errNames.Nodup := by decide +kernel
theorem truths_flat (x : Str) : (truths x).all flatV = true := by
  unfold truths
  rw [List.all_map]
  exact List.all_eq_true.mpr fun _ _ => rfl
theorem eqV_t (b : Bool) : eqV (.bl b) (.bl true) = b := by cases b <;> rfl
theorem truths_one {x : Str} : ∀ {l : List Str}, x ∈ l → l.Nodup → (l.map fun y => V.bl (decide (x = y))).countP (fun z => eqV z (.bl true)) = 1
  | y :: l, h, nd => by
    rw [List.nodup_cons] at nd
    rw [List.map_cons, List.countP_cons, eqV_t]
    by_cases e : x = y
    · have z : (l.map fun y => V.bl (decide (x = y))).countP (fun z => eqV z (.bl true)) = 0 := by
        rw [List.countP_eq_zero]
        intro v hv
        obtain ⟨u, hu, rfl⟩ := List.mem_map.mp hv
        rw [eqV_t, decide_eq_true_eq]
        intro q
        exact nd.1 (by rw [← e, q]; exact hu)
      rw [z, decide_eq_true e]
      rfl
    · rw [truths_one ((List.mem_cons.mp h).resolve_left e) nd.2, decide_eq_false e]
      rfl
theorem does_law_class {K : PySem.W.Frag} {x : Str} {a : Addr} {d : Option Addr} {H : Hp} {Q : VK} (E : ErrIs K x) (dk : DictOk d H) (k : ∀ H', Same H H' → Q (.str x) H') : t_law_class K (He.ga K x) a d { nx := fun _ H' => Q .non H', rt := Q } (start N_law_class [.ref a]) H := by
  refine ⟨_, rfl, _, .ref (He.ga K "BadKinds"), _, rfl, fun _ h => h, E.k _ (by decide +kernel), dk, _, rfl, _, .ref (He.ga K "BadOrder"), _, rfl, fun _ h => h, E.k _ (by decide +kernel), dk, _, rfl, _, .ref (He.ga K "BadRows"), _, rfl, fun _ h => h, E.k _ (by decide +kernel), dk, _, rfl, _, .ref (He.ga K "BadRuns"), _, rfl, fun _ h => h, E.k _ (by decide +kernel), dk, szle (by show 4 ≤ 100000; decide), fun l1 h1 => ?_⟩
  generalize gX : upd _ l1 _ = H1
  have s1 := newS h1 gX
  have e1 := newE gX
  clear gX
  have s01 : Same H H1 := s1
  refine ⟨_, rfl, _, rfl, _, .ref (He.ga K "BadRoom"), _, rfl, fun _ h => h, E.k _ (by decide +kernel), (dk.same s01), _, rfl, _, .ref (He.ga K "BadLengths"), _, rfl, fun _ h => h, E.k _ (by decide +kernel), (dk.same s01), _, rfl, _, .ref (He.ga K "BadPlan"), _, rfl, fun _ h => h, E.k _ (by decide +kernel), (dk.same s01), _, rfl, _, .ref (He.ga K "BadPaper"), _, rfl, fun _ h => h, E.k _ (by decide +kernel), (dk.same s01), szle (by show 4 ≤ 100000; decide), fun l2 h2 => ?_⟩
  generalize gX : upd _ l2 _ = H2
  have s2 := newS h2 gX
  have e2 := newE gX
  clear gX
  refine ⟨l1, l2, [V.bl (decide (x = "BadKinds")), V.bl (decide (x = "BadOrder")), V.bl (decide (x = "BadRows")), V.bl (decide (x = "BadRuns"))], [V.bl (decide (x = "BadRoom")), V.bl (decide (x = "BadLengths")), V.bl (decide (x = "BadPlan")), V.bl (decide (x = "BadPaper"))], rfl, rfl, s2 _ _ e1, e2, szle (by show 4 + 4 ≤ 100000; decide), fun l3 h3 => ?_⟩
  generalize gX : upd _ l3 _ = H3
  have s3 := newS h3 gX
  have e3 := newE gX
  clear gX
  have s03 : Same H H3 := (s01.trans s2).trans s3
  refine ⟨_, rfl, _, rfl, _, .ref (He.ga K "BadCount"), _, rfl, fun _ h => h, E.k _ (by decide +kernel), (dk.same s03), _, rfl, _, .ref (He.ga K "BadBlock"), _, rfl, fun _ h => h, E.k _ (by decide +kernel), (dk.same s03), _, rfl, _, .ref (He.ga K "Stopped"), _, rfl, fun _ h => h, E.k _ (by decide +kernel), (dk.same s03), _, rfl, _, .ref (He.ga K "Shut"), _, rfl, fun _ h => h, E.k _ (by decide +kernel), (dk.same s03), szle (by show 4 ≤ 100000; decide), fun l4 h4 => ?_⟩
  generalize gX : upd _ l4 _ = H4
  have s4 := newS h4 gX
  have e4 := newE gX
  clear gX
  refine ⟨l3, l4, [V.bl (decide (x = "BadKinds")), V.bl (decide (x = "BadOrder")), V.bl (decide (x = "BadRows")), V.bl (decide (x = "BadRuns")), V.bl (decide (x = "BadRoom")), V.bl (decide (x = "BadLengths")), V.bl (decide (x = "BadPlan")), V.bl (decide (x = "BadPaper"))], [V.bl (decide (x = "BadCount")), V.bl (decide (x = "BadBlock")), V.bl (decide (x = "Stopped")), V.bl (decide (x = "Shut"))], rfl, rfl, s4 _ _ e3, e4, szle (by show 8 + 4 ≤ 100000; decide), fun l5 h5 => ?_⟩
  generalize gX : upd _ l5 _ = H5
  have s5 := newS h5 gX
  have e5 := newE gX
  clear gX
  have s05 : Same H H5 := (s03.trans s4).trans s5
  refine ⟨_, rfl, _, rfl, _, .ref (He.ga K "NotYet"), _, rfl, fun _ h => h, E.k _ (by decide +kernel), (dk.same s05), _, rfl, _, .ref (He.ga K "Empty"), _, rfl, fun _ h => h, E.k _ (by decide +kernel), (dk.same s05), _, rfl, _, .ref (He.ga K "BadText"), _, rfl, fun _ h => h, E.k _ (by decide +kernel), (dk.same s05), szle (by show 3 ≤ 100000; decide), fun l6 h6 => ?_⟩
  generalize gX : upd _ l6 _ = H6
  have s6 := newS h6 gX
  have e6 := newE gX
  clear gX
  refine ⟨l5, l6, [V.bl (decide (x = "BadKinds")), V.bl (decide (x = "BadOrder")), V.bl (decide (x = "BadRows")), V.bl (decide (x = "BadRuns")), V.bl (decide (x = "BadRoom")), V.bl (decide (x = "BadLengths")), V.bl (decide (x = "BadPlan")), V.bl (decide (x = "BadPaper")), V.bl (decide (x = "BadCount")), V.bl (decide (x = "BadBlock")), V.bl (decide (x = "Stopped")), V.bl (decide (x = "Shut"))], [V.bl (decide (x = "NotYet")), V.bl (decide (x = "Empty")), V.bl (decide (x = "BadText"))], rfl, rfl, s6 _ _ e5, e6, szle (by show 12 + 3 ≤ 100000; decide), fun l7 h7 => ?_⟩
  generalize gX : upd _ l7 _ = H7
  have s7 := newS h7 gX
  have e7 := newE gX
  clear gX
  have s07 : Same H H7 := (s05.trans s6).trans s7
  refine ⟨szle (by show 9 ≤ 100000; decide), fun w1 g1 => ?_⟩
  generalize gX : upd _ w1 _ = G1
  have t1 := newS g1 gX
  have f1 := newE gX
  clear gX
  refine ⟨_, rfl, szle (by show 6 ≤ 100000; decide), fun w2 g2 => ?_⟩
  generalize gX : upd _ w2 _ = G2
  have t2 := newS g2 gX
  have f2 := newE gX
  clear gX
  refine ⟨w1, w2, _, _, rfl, rfl, t2 _ _ f1, f2, szle (by show 9 + 6 ≤ 100000; decide), fun w3 g3 => ?_⟩
  generalize gX : upd _ w3 _ = G3
  have t3 := newS g3 gX
  have f3 := newE gX
  clear gX
  have t0 : Same H7 G3 := (t1.trans t2).trans t3
  have eK : G3 l7 = some (.lst (truths x)) := t0 _ _ e7
  have eW : G3 w3 = some (.lst (errNames.map V.str)) := f3
  have sK : Same H G3 := s07.trans t0
  refine ⟨_, rfl, .inl ⟨rfl, _, SqL.of eK⟩, l7, truths x, .bl true, rfl, rfl, SqL.of eK, rfl, truths_flat x, rfl, _, rfl, ?_⟩
  rw [show (truths x).countP (fun z => eqV z (.bl true)) = 1 from truths_one E.mem names_nd]
  refine ⟨_, rfl, _, .type "ValueError", _, rfl, fun _ h => h, E.v, dk.same sK, ?_⟩
  obtain ⟨j, hj, ej⟩ := List.getElem_of_mem E.mem
  have hj2 : errNames[j]? = some x := by rw [List.getElem?_eq_getElem hj, ej]
  refine ⟨_, rfl, _, rfl, _, rfl, .inl ⟨rfl, _, SqL.of eK⟩, l7, truths x, .bl true, j, .bl true, rfl, rfl, SqL.of eK, rfl, truths_flat x, ?_, rfl, fun m z hm hz => ?_, ixL eW rfl (by rw [List.getElem?_map, hj2]; rfl) (k _ sK)⟩
  · unfold truths
    rw [List.getElem?_map, hj2]
    show some (V.bl (decide (x = x))) = _
    rw [decide_eq_true rfl]
  · unfold truths at hz
    rw [List.getElem?_map] at hz
    cases q : errNames[m]? with
    | none => rw [q] at hz; cases hz
    | some y =>
      rw [q] at hz
      cases hz
      rw [eqV_t]
      refine decide_eq_false fun z => ?_
      subst z
      have := (List.getElem?_inj (List.getElem?_eq_some_iff.mp q).1 names_nd).mp (q.trans hj2.symm)
      omega
abbrev N_law_told : List Str := ["_law_work", "_law_e", "_law_word"]
abbrev P_law_told : List Str := ["_law_work"]
def t_law_told (K : PySem.W.Frag) (a : Addr) (cls : Value) (d : Option Addr) : TS := (tSeq (tAsg (tWarm K 1 a cls d N_law_class (t_law_class K)) (gName 2))
  (tSeq (tIfS (tTest (tOpC rEq (tVar 2) (.str "BadRuns"))) (tRet (tTup (tCons (tVar 2) (tCons (tErrF K 1 a cls d "number") tNil)))) tNext)
   (tRet (tTup (tCons (tVar 2) (tCons (tIf (tTest (tOp (rIn K false) (tVar 2) (tTup (tConsC (.str "BadRows") (tConsC (.str "BadText") tNil))))) (tErrF K 1 a cls d "place") (tC (.int 0))) tNil))))))
theorem set1 {σ : L2.St} {v : Option V} (h : σ.length = 3) : ∃ x0 x2, σ.set 1 v = [x0, v, x2] := by
  match σ, h with
  | [x0, _, x2], _ => exact ⟨x0, x2, rfl⟩
theorem ErrNo.ok {K : PySem.W.Frag} {x : Str} {d : Option Addr} {H : Hp} {v : V} (h : ErrNo K x d H v) : DictOk d H := by
  unfold ErrNo at h
  intro dd e
  split at h
  · obtain ⟨d2, fs, _, _, e2, q, _⟩ := h
    rw [e2] at e
    cases e
    exact ⟨fs, q⟩
  · rw [h.1] at e
    cases e
theorem ErrNo.same {K : PySem.W.Frag} {x : Str} {d : Option Addr} {H H' : Hp} {v : V} (h : ErrNo K x d H v) (s : Same H H') : ErrNo K x d H' v := by
  unfold ErrNo at h ⊢
  split at h
  · rename_i c
    rw [if_pos c]
    obtain ⟨dd, fs, a, b, e, q, l⟩ := h
    exact ⟨dd, fs, a, b, e, s _ _ q, l⟩
  · rename_i c
    rw [if_neg c]
    exact h
theorem two_words {x : Str} : inV (.str x) [.str "BadRows", .str "BadText"] = decide (x = "BadRows" ∨ x = "BadText") := by
  unfold inV
  rw [List.any_cons, List.any_cons, List.any_nil, Bool.or_false]
  show (("BadRows" : Str) == x || ("BadText" : Str) == x) = _
  by_cases c : x = "BadRows"
  · subst c
    simp
  · by_cases c2 : x = "BadText"
    · subst c2
      simp
    · simp [c, c2, Ne.symm c, Ne.symm c2, beq_eq_false_iff_ne.mpr (Ne.symm c), beq_eq_false_iff_ne.mpr (Ne.symm c2)]
theorem pure_law_told {K : PySem.W.Frag} : ∀ (a : Addr) (cls : Value) (d : Option Addr) (H : Hp) (Q : VK) (D : Ends) (σ : L2.St), rErr K cls d H Q → D.rt = Q → σ.length = N_law_told.length → t_law_told K a cls d D (σ.set 1 (some (.ref a))) H := by
  intro a cls d H Q D σ h eD hl
  obtain ⟨x, v, rfl, E, no, k⟩ := h
  obtain ⟨x0, x2, eσ⟩ := set1 (v := some (.ref a)) hl
  rw [eσ]
  refine ⟨rfl, He.ga K x, rfl, E.c, does_law_class E no.ok fun H1 s1 => ?_⟩
  have no1 := no.same s1
  refine ⟨_, rfl, rfl, _, rfl, ?_⟩
  unfold ErrNo at no1
  by_cases c1 : x = "BadRuns"
  · rw [if_pos (.inl c1), if_pos c1] at no1
    obtain ⟨dd, fs, hx, hn, ed, eH, l⟩ := no1
    rw [decide_eq_true (show V.str x = V.str "BadRuns" by rw [c1])]
    refine ⟨_, rfl, rfl, _, dd, fs, v, rfl, hx, hn, ed, eH, l, szle (by show 2 ≤ 100000; decide), fun q hq => ?_⟩
    generalize gX : upd _ q _ = H2
    have s2 := newS hq gX
    have e2 := newE gX
    clear gX
    rw [eD]
    exact k q H2 (s1.free hq) (s1.trans s2) e2
  rw [decide_eq_false (show ¬ V.str x = V.str "BadRuns" from fun z => c1 (V.str.inj z))]
  refine ⟨_, rfl, _, rfl, szle (by show 2 ≤ 100000; decide), fun q hq => ?_⟩
  have q0 := s1.free hq
  generalize gX : upd _ q _ = H2
  have s2 := newS hq gX
  have e2 := newE gX
  clear gX
  refine ⟨q, _, rfl, .inr (SqT.of e2), rfl, rfl, _, rfl, ?_⟩
  rw [if_neg (by decide), two_words]
  by_cases c2 : x = "BadRows" ∨ x = "BadText"
  · rw [if_pos (.inr c2), if_neg c1] at no1
    obtain ⟨dd, fs, hx, hn, ed, eH, l⟩ := no1
    rw [decide_eq_true c2]
    refine ⟨rfl, _, dd, fs, v, rfl, hx, hn, ed, s2 _ _ eH, l, szle (by show 2 ≤ 100000; decide), fun r hr => ?_⟩
    have r0 := (s1.trans s2).free hr
    generalize gX : upd _ r _ = H3
    have s3 := newS hr gX
    have e3 := newE gX
    clear gX
    rw [eD]
    exact k r H3 r0 ((s1.trans s2).trans s3) e3
  · rw [if_neg (fun z => z.elim c1 c2)] at no1
    obtain ⟨_, rfl⟩ := no1
    rw [decide_eq_false c2]
    refine ⟨szle (by show 2 ≤ 100000; decide), fun r hr => ?_⟩
    have r0 := (s1.trans s2).free hr
    generalize gX : upd _ r _ = H3
    have s3 := newS hr gX
    have e3 := newE gX
    clear gX
    rw [eD]
    exact k r H3 r0 ((s1.trans s2).trans s3) e3
end Rs

namespace Rs
open PySem PySem.Spec PyProof.Rows L2
open LamX
def errD (x : Str) : PyData := .tuple [.str x, .int 0]
theorem errD_ok (x : Str) : Rs.okA 2 (errD x) := ⟨by show 2 ≤ 100000; decide, fun d hd => by
  simp only [List.mem_cons, List.not_mem_nil, or_false] at hd
  rcases hd with rfl | rfl <;> exact trivial⟩
theorem errD_dp {K : PySem.W.Frag} {H : Hp} {t : Addr} {x : Str} (e : H t = some (.tup [.str x, .int 0])) : Dp K H (.ref t) (errD x) := .tup (SqT.of e) (.cons (.str _) (.cons (.int _) .nil))
def ButN (F : List Addr) (H H' : Hp) : Prop := ∀ x u, H x = some u → (∀ ps, u ≠ .tbl ps) → x ∉ F → H' x = some u
theorem ButN.of {F : List Addr} {H H' : Hp} (k : But F H H') : ButN F H H' := fun x u e _ n => k x u e n
theorem ButN.ext {F : List Addr} {H H' : Hp} (k : ExtN H H') : ButN F H H' := fun x u e n _ => k x u e n
theorem ButN.trans {F : List Addr} {H H1 H2 : Hp} (a : ButN F H H1) (b : ButN F H1 H2) : ButN F H H2 := fun x u e n m => b x u (a x u e n m) n m
def Free (F : List Addr) (H : Hp) : Prop := ∀ x ∈ F, ∀ u, H x = some u → (∀ ps, u ≠ .tbl ps) ∧ ∀ c q, u ≠ CodeO c q
theorem tabs_but {T : List (Addr × Str)} {F : List Addr} {H H' : Hp} (t : Tabs T H) (k : But F H H') (f : Free F H) : Tabs T H' := fun p hp => by
  obtain ⟨ps, h1, h2, h3⟩ := t p hp
  refine ⟨ps, k _ _ h1 fun z => (f _ z _ h1).1 ps rfl, h2, fun pos cv hc => ?_⟩
  obtain ⟨c, e1, e2⟩ := h3 pos cv hc
  exact ⟨c, e1, k _ _ e2 fun z => (f _ z _ e2).2 _ _ rfl⟩
theorem tabs_same {T : List (Addr × Str)} {H H' : Hp} (t : Tabs T H) (s : Same H H') : Tabs T H' := t.ext s
theorem free_lst {vs : List V} : (∀ ps, HO.lst vs ≠ .tbl ps) ∧ ∀ c q, HO.lst vs ≠ CodeO c q := ⟨fun _ z => (by cases z), fun _ _ z => (by unfold CodeO at z; cases z)⟩
section
variable {K : PySem.W.Frag} {H H' : Hp} {p q a bl : Addr} {F G : List Addr}
theorem Box.free (h : Box H a bl) : Free [a, bl] H := fun x hx u e => by
  obtain ⟨ns, st, e1, e2, _⟩ := h.ex
  simp only [List.mem_cons, List.not_mem_nil, or_false] at hx
  rcases hx with rfl | rfl
  · rw [e1] at e; cases e; exact free_lst
  · rw [e2] at e; cases e; exact free_lst
theorem ButN.tup (k : ButN F H H') (n : ∀ x ∈ F, ∀ vs, H x ≠ some (.tup vs)) : TupLe H H' := fun c xs e => k c _ e (fun _ z => by cases z) fun z => n c z xs e
theorem Box.keepN {Z : List Addr} (h : Box H a bl) (k : ButN Z H H') (n : ∀ x ∈ [a, bl], x ∉ Z) : Box H' a bl := h.keep (fun o e => k a o e (h.free a (by simp) o e).1 (n a (by simp))) fun o e => k bl o e (h.free bl (by simp) o e).1 (n bl (by simp))
end
theorem extN_tup {H H' : Hp} (k : ExtN H H') : TupLe H H' := fun c xs e => k c _ e fun _ z => by cases z
theorem told_by {K : PySem.W.Frag} {T : List (Addr × Str)} {H : Hp} {Q : VK} {σ : L2.St} {t : XK → TE} (hT : Tabs T H) (k : ∀ H1, ExtN H H1 → Tabs T H1 → t (fun cls d H' => rErr K cls d H' Q) σ H1 Q) : tLam T (TTold K) t σ H Q := ⟨hT, k⟩
theorem rErr_plain {K : PySem.W.Frag} {x : Str} {H : Hp} {Q : VK} (E : ErrIs K x) (hx : ¬ (x = "BadRuns" ∨ x = "BadRows" ∨ x = "BadText")) (k : ∀ u H', H u = none → Same H H' → H' u = some (.tup [.str x, .int 0]) → Q (.ref u) H') : rErr K (.ref (He.ga K x)) none H Q :=
  ⟨x, .int 0, rfl, E, by unfold ErrNo; rw [if_neg hx]; exact ⟨rfl, rfl⟩, fun u H' hu s e => k u H' hu (fun b o q => s b o q) e⟩
theorem alike_err {K : PySem.W.Frag} {H : Hp} {x : Str} {t u : Addr} {Q : VK} {E : XK} (e1 : H t = some (.tup [.str x, .int 0])) (e2 : H u = some (.tup [.str x, .int 0])) (k : Q (.bl true) H) : sp_law_alike K [.ref t, .ref u] H Q E :=
  ⟨errD x, (errD_ok x).to (by decide), errD_dp e1, errD_dp e2, k⟩
end Rs

namespace Rs
open PySem PySem.Spec PyProof.Rows L2
open LamX
def cutsM : Nat → Int → Int → List (List Int)
  | 0, _, e => [[e]]
  | k + 1, b, e => [e] :: ((List.range (e - (b + 1)).toNat).map fun (i : Nat) => (cutsM k (b + 1 + (i : Int)) e).map fun r => (b + 1 + (i : Int)) :: r).flatten
theorem cutsM_cons (k : Nat) (b e : Int) : ∃ t, cutsM k b e = [e] :: t := by
  cases k with
  | zero => exact ⟨[], rfl⟩
  | succ k => exact ⟨_, rfl⟩
theorem cutsM_mem : ∀ (k : Nat) (b e : Int) (qs : List Int), b < e → ((qs ∈ cutsM k b e ↔ Asc b qs e ∧ 1 ≤ qs.length ∧ qs.length ≤ k + 1) ∧ (qs ∈ (cutsM k b e).tail ↔ Asc b qs e ∧ 2 ≤ qs.length ∧ qs.length ≤ k + 1)) := by
  intro k
  have one : ∀ (b e : Int) (qs : List Int), b < e → (qs = [e] ↔ Asc b qs e ∧ qs.length = 1) := fun b e qs h => by
    constructor
    · rintro rfl
      exact ⟨⟨h, rfl⟩, rfl⟩
    · rintro ⟨a, l⟩
      obtain ⟨x, rfl⟩ := List.length_eq_one_iff.mp l
      have a2 : x = e := a.2
      rw [a2]
  have mix : ∀ (k : Nat) (b e : Int) (qs : List Int), b < e → (qs ∈ (cutsM k b e).tail ↔ Asc b qs e ∧ 2 ≤ qs.length ∧ qs.length ≤ k + 1) → (qs ∈ cutsM k b e ↔ Asc b qs e ∧ 1 ≤ qs.length ∧ qs.length ≤ k + 1) := fun k b e qs h t => by
    obtain ⟨u, hu⟩ := cutsM_cons k b e
    rw [hu] at t ⊢
    rw [List.tail_cons] at t
    rw [List.mem_cons, t, one b e qs h]
    constructor
    · rintro (⟨a, l⟩ | ⟨a, l, m⟩)
      · exact ⟨a, by omega, by omega⟩
      · exact ⟨a, by omega, m⟩
    · rintro ⟨a, l, m⟩
      by_cases z : qs.length = 1
      · exact .inl ⟨a, z⟩
      · exact .inr ⟨a, by omega, m⟩
  induction k with
  | zero =>
    intro b e qs h
    have t : qs ∈ (cutsM 0 b e).tail ↔ Asc b qs e ∧ 2 ≤ qs.length ∧ qs.length ≤ 0 + 1 := ⟨fun z => by simp [cutsM] at z, fun ⟨_, l, m⟩ => by omega⟩
    exact ⟨mix _ _ _ _ h t, t⟩
  | succ k ih =>
    intro b e qs h
    have t : qs ∈ (cutsM (k + 1) b e).tail ↔ Asc b qs e ∧ 2 ≤ qs.length ∧ qs.length ≤ k + 1 + 1 := by
      show qs ∈ ((List.range (e - (b + 1)).toNat).map fun (i : Nat) => (cutsM k (b + 1 + (i : Int)) e).map fun r => (b + 1 + (i : Int)) :: r).flatten ↔ _
      rw [List.mem_flatten]
      constructor
      · rintro ⟨l, hl, hq⟩
        obtain ⟨i, hi, rfl⟩ := List.mem_map.mp hl
        obtain ⟨r, hr, rfl⟩ := List.mem_map.mp hq
        rw [List.mem_range] at hi
        obtain ⟨a, l1, l2⟩ := (ih (b + 1 + (i : Int)) e r (by omega)).1.mp hr
        exact ⟨⟨by omega, a⟩, by rw [List.length_cons]; omega, by rw [List.length_cons]; omega⟩
      · rintro ⟨a, l1, l2⟩
        match qs, a, l1, l2 with
        | p :: r, a, l1, l2 =>
          rw [List.length_cons] at l1 l2
          have al := asc_le a.2
          have a1 := a.1
          refine ⟨_, List.mem_map.mpr ⟨(p - (b + 1)).toNat, List.mem_range.mpr (by omega), rfl⟩, List.mem_map.mpr ⟨r, ?_, ?_⟩⟩
          · have e1 : b + 1 + (((p - (b + 1)).toNat : Nat) : Int) = p := by omega
            rw [e1]
            exact (ih p e r (by omega)).1.mpr ⟨a.2, by omega, by omega⟩
          · have e1 : b + 1 + (((p - (b + 1)).toNat : Nat) : Int) = p := by omega
            rw [e1]
    exact ⟨mix _ _ _ _ h t, t⟩
theorem flat_pow {α : Type} : ∀ (n : Nat) (g : Nat → List α), (∀ i, i < n → (g i).length ≤ 2 ^ (n - 1 - i)) → ((List.range n).map g).flatten.length + 1 ≤ 2 ^ n
  | 0, g, _ => by simp
  | n + 1, g, h => by
    rw [List.range_succ_eq_map, List.map_cons, List.map_map, List.flatten_cons, List.length_append]
    have a := h 0 (by omega)
    have b := flat_pow n (g ∘ Nat.succ) fun i hi => by
      have := h (i + 1) (by omega)
      rw [show n + 1 - 1 - (i + 1) = n - 1 - i by omega] at this
      exact this
    rw [show n + 1 - 1 - 0 = n by omega] at a
    rw [Nat.pow_succ]
    omega
theorem cutsM_few : ∀ (k : Nat) (b e : Int), (cutsM k b e).length ≤ 2 ^ (e - (b + 1)).toNat
  | 0, b, e => by
    show 1 ≤ _
    exact Nat.one_le_two_pow
  | k + 1, b, e => by
    show ((List.range (e - (b + 1)).toNat).map fun (i : Nat) => (cutsM k (b + 1 + (i : Int)) e).map fun r => (b + 1 + (i : Int)) :: r).flatten.length + 1 ≤ _
    refine flat_pow _ _ fun i hi => ?_
    rw [List.length_map]
    have := cutsM_few k (b + 1 + (i : Int)) e
    rwa [show (e - (b + 1 + (i : Int) + 1)).toNat = (e - (b + 1)).toNat - 1 - i by omega] at this
theorem pow12 {n : Nat} (h : n ≤ 11) : 2 ^ n ≤ 2048 := by
  have : ∀ n : Nat, n < 12 → 2 ^ n ≤ 2048 := by decide
  exact this n (by omega)
section
variable {w : Nat} {ls : List Int} {c : Int → Int → Int}
theorem cut_low {e : Int} (he : e ≤ ls.length) : ∀ (ps : List Pl) (b b0 : Int), Pl.fitsL w ps = true → 0 ≤ b0 → b0 ≤ b → b ≤ e → Pl.runsL ps = segL ls b e → (b0 < b ∨ 2 ≤ ps.length) →
    (∀ b' e', b0 ≤ b' → b' < e' → e' ≤ e → (b0 < b' ∨ e' < e) → ∀ p : Pl, p.fits w = true → p.runs = segL ls b' e' → c b' e' ≤ p.wc) → ∃ qs, Asc b qs e ∧ qs.length = ps.length ∧ cutSum c b qs ≤ Pl.wcL ps
  | [], b, b0, _, h0, h1, h2, hr, _, _ => by
    have := segL_len (ls := ls) (show 0 ≤ b by omega) h2 he
    rw [← hr] at this
    have : b = e := by
      rw [Pl.runsL, List.length_nil] at this
      omega
    exact ⟨[], this, rfl, by rw [Pl.wcL]; exact Int.le_refl _⟩
  | p :: ps, b, b0, f, h0, h1, h2, hr, hs, H => by
    rw [Pl.fitsL] at f
    simp only [Bool.and_eq_true] at f
    have k1 := Pl.runs_pos p f.1
    have ls1 := segL_len (ls := ls) (show 0 ≤ b by omega) h2 he
    rw [← hr, Pl.runsL, List.length_append] at ls1
    have dl := Pl.deepL ps f.2
    have hb' : b + (p.runs.length : Int) ≤ e := by omega
    have ap := segL_app (ls := ls) (show 0 ≤ b by omega) (show b ≤ b + (p.runs.length : Int) by omega) hb'
    have l1 := segL_len (ls := ls) (show 0 ≤ b by omega) (show b ≤ b + (p.runs.length : Int) by omega) (by omega)
    rw [← ap, Pl.runsL] at hr
    obtain ⟨e1, e2⟩ := List.append_inj hr (by omega)
    have sm : b0 < b ∨ b + (p.runs.length : Int) < e := by
      rcases hs with z | z
      · exact .inl z
      · right
        rw [List.length_cons] at z
        omega
    have n1 := H b (b + (p.runs.length : Int)) h1 (by omega) hb' sm p f.1 e1
    obtain ⟨qs, q1, q2, q3⟩ := cut_low he ps (b + (p.runs.length : Int)) b0 f.2 h0 (by omega) hb' e2 (.inl (by omega)) H
    refine ⟨(b + (p.runs.length : Int)) :: qs, ⟨by omega, q1⟩, by rw [List.length_cons, q2, List.length_cons], ?_⟩
    rw [Pl.wcL]
    show c b (b + (p.runs.length : Int)) + cutSum c (b + (p.runs.length : Int)) qs ≤ _
    omega
def Shown (w : Nat) (ls : List Int) (c : Int → Int → Int) : Prop := ∀ b e, (b, e) ∈ stretchL ls.length → ∀ qs, Asc b qs e → 2 ≤ qs.length → qs.length ≤ w → c b e ≤ cutSum c b qs + (segL ls b e).sum
theorem paper_low (S : Shown w ls c) (one : ∀ b, c b (b + 1) ≤ 0) : ∀ (d : Nat) (b e : Int), 0 ≤ b → b < e → e ≤ ls.length → e - b ≤ d → ∀ p : Pl, p.fits w = true → p.runs = segL ls b e → c b e ≤ p.wc
  | 0, b, e, _, h, _, h2 => by omega
  | d + 1, b, e, h0, h, h1, h2 => fun p f hr => by
    have l := segL_len (ls := ls) h0 (show b ≤ e by omega) h1
    by_cases e1 : e = b + 1
    · subst e1
      obtain ⟨x, hx⟩ := segL_one (ls := ls) h0 h1
      rw [hx] at hr
      rw [Pl.one_leaf f hr]
      exact one b
    · cases p with
      | leaf n =>
        rw [Pl.runs] at hr
        rw [← hr, List.length_singleton] at l
        omega
      | node qs =>
        rw [Pl.fits] at f
        simp only [Bool.and_eq_true, decide_eq_true_eq] at f
        rw [Pl.runs] at hr
        obtain ⟨rs, r1, r2, r3⟩ := cut_low (c := c) h1 qs b b f.2 h0 (Int.le_refl _) (by omega) hr (.inr f.1.1) fun b' e' z1 z2 z3 z4 => paper_low S one d b' e' (by omega) z2 (by omega) (by omega)
        have := S b e (stretch_mem.mpr ⟨h0, by show b + 2 ≤ e; omega, h1⟩) rs r1 (by rw [r2]; exact f.1.1) (by rw [r2]; exact f.1.2)
        rw [Pl.wc, hr]
        omega
theorem paper_all (S : Shown w ls c) (one : ∀ b, c b (b + 1) ≤ 0) (h : 1 ≤ ls.length) {p : Pl} (f : p.fits w = true) (hr : p.runs = ls) : c 0 (ls.length : Int) ≤ p.wc :=
  paper_low S one ls.length 0 (ls.length : Int) (Int.le_refl _) (by omega) (Int.le_refl _) (by omega) p f (by rw [segL_all]; exact hr)
end
abbrev N_law_cuts : List Str := ["_law_begin", "_law_end", "_law_ways", "_law_found", "_law_place", "_law_rest"]
abbrev P_law_cuts : List Str := ["_law_begin", "_law_end", "_law_ways"]
def IL (N : Addr → Prop) : Rel (List Int) := fun H v c => ∃ l, v = .ref l ∧ N l ∧ H l = some (.lst (c.map V.int))
theorem IL.keep {N M : Addr → Prop} {H H' : Hp} {v : V} {c : List Int} (h : IL N H v c) (k : ∀ l o, N l → H l = some o → H' l = some o) (m : ∀ l, N l → M l) : IL M H' v c := let ⟨l, a, b, e⟩ := h; ⟨l, a, m l b, k l _ b e⟩
def spr_law_cuts (K : PySem.W.Frag) (d : Nat) : Sp := fun vs H Q E => match vs with
  | [bv, ev, wv] => ∃ (b e : Int) (k : Nat), bv = .int b ∧ ev = .int e ∧ wv = .int ((k : Int) + 1) ∧ k < d ∧ b < e ∧ 0 ≤ b ∧ e ≤ 12 ∧ k ≤ 5 ∧ ∀ f H', H f = none → Lst (IL fun l => H l = none) H' f (cutsM k b e) → Same H H' → Q (.ref f) H'
  | _ => False
abbrev sp_law_cuts (K : PySem.W.Frag) : Sp := spr_law_cuts K 8
theorem no_law_cuts (K : PySem.W.Frag) : ∀ vs H Q E, ¬ spr_law_cuts K 0 vs H Q E := fun vs H Q E h => by
  unfold spr_law_cuts at h
  match vs, h with
  | [_, _, _], ⟨_, _, _, _, _, _, h1, _⟩ => omega
theorem len_law_cuts (K : PySem.W.Frag) : ∀ d vs H Q E, spr_law_cuts K d vs H Q E → vs.length = 3 := fun d vs H Q E h => by
  unfold spr_law_cuts at h
  match vs, h with
  | [_, _, _], _ => rfl
def t_law_cuts (K : PySem.W.Frag) (sp : Sp) (E : XK) : TS := (tSeq (tAsg (tLst (tCons (tLst (tCons (tVar 1) tNil)) tNil)) (gName 3))
  (tSeq (tIfS (tTest (tOpC xGt (tVar 2) (.int 1))) 
     (tFor (iRng2 (tCons (tOpC xAdd (tVar 0) (.int 1)) (tCons (tVar 1) tNil))) (gName 4) (tDrop (tBM K "list" rExtend (tVar 3) (tCons (tLc (iList K (tCall sp [] E (tCons (tVar 4) (tCons (tVar 1) (tCons (tOpC xSub (tVar 2) (.int 1)) tNil))))) (gName 5) tYes (tOp rCat (tLst (tCons (tVar 4) tNil)) (tVar 5)) [5]) tNil)))) tNext)
   (tRet (tVar 3))))
theorem cutsM_lens {k : Nat} {b e : Int} {qs : List Int} (h : b < e) (m : qs ∈ cutsM k b e) : qs.length ≤ k + 1 := ((cutsM_mem k b e qs h).1.mp m).2.2
theorem pure_law_cuts {K : PySem.W.Frag} (d : Nat) : ∀ vs H Q E, spr_law_cuts K (d + 1) vs H Q E → t_law_cuts K (spr_law_cuts K d) E { nx := fun _ H' => Q .non H', rt := Q } (start N_law_cuts vs) H := by
  intro vs H Q E hyp
  unfold spr_law_cuts at hyp
  match vs, hyp with
  | [bv, ev, wv], hyp =>
    obtain ⟨b, e, k, rfl, rfl, rfl, hk, hbe, hb0, h12, k5, kq⟩ := hyp
    refine ⟨_, rfl, szle (by show 1 ≤ 100000; decide), fun p hp => ?_⟩
    have hp0 := hp
    generalize gX : upd _ p _ = H1
    have s1 := newS hp gX
    have ep := newE gX
    clear gX
    refine ⟨szle (by show 1 ≤ 100000; decide), fun f hf => ?_⟩
    have f0 : H f = none := s1.free hf
    generalize gX : upd _ f _ = H2
    have s2 := newS hf gX
    have ef := newE gX
    clear gX
    have s02 := s1.trans s2
    have ep2 := s2 _ _ ep
    have pf : p ≠ f := fun z => by rw [z, ef] at ep2; cases ep2
    refine ⟨_, rfl, _, _, rfl, rfl, _, rfl, ?_⟩
    cases k with
    | zero =>
      rw [decide_eq_false (show ¬ (1 : Int) < ((0 : Nat) : Int) + 1 by decide)]
      exact ⟨_, rfl, kq f H2 f0 ⟨[.ref p], ef, .cons ⟨p, rfl, hp0, ep2⟩ .nil⟩ s02⟩
    | succ k =>
      rw [decide_eq_true (show (1 : Int) < ((k + 1 : Nat) : Int) + 1 by omega)]
      refine ⟨_, rfl, _, _, rfl, rfl, _, rfl, _, _, rfl, ⟨by omega, by omega, by omega, by omega⟩, ?_⟩
      refine for_range (lo := b + 1) (n := (e - (b + 1)).toNat) (fun i σ H' => ∃ (vs : List V) (x4 x5 : Option V), σ = [some (.int b), some (.int e), some (.int (((k + 1 : Nat) : Int) + 1)), some (.ref f), x4, x5] ∧ H' f = some (.lst vs) ∧ Paired (IL (fun l => H l = none ∧ l ≠ f) H') vs ([e] :: ((List.range i).map fun (i : Nat) => (cutsM k (b + 1 + (i : Int)) e).map fun r => (b + 1 + (i : Int)) :: r).flatten) ∧ vs.length + 2 ^ ((e - (b + 1)).toNat - i) ≤ 1 + 2 ^ (e - (b + 1)).toNat ∧ Same H H')
        ⟨[.ref p], none, none, rfl, ef, .cons ⟨p, rfl, ⟨hp0, pf⟩, ep2⟩ .nil, by simp, s02⟩ ?_ ?_
      · rintro i σ H3 hi ⟨vs, x4, x5, rfl, ef3, pv, len, s3⟩
        have lf := pv.length
        have pw := pow12 (n := (e - (b + 1)).toNat) (by omega)
        have p1 : 1 ≤ 2 ^ ((e - (b + 1)).toNat - i) := Nat.one_le_two_pow
        refine ⟨_, rfl, .inl ⟨rfl, _, SqL.of ef3⟩, _, rfl, _, rfl, _, rfl, _, _, rfl, rfl, b + 1 + (i : Int), e, k, rfl, rfl, by show V.int (((k + 1 : Nat) : Int) + 1 - 1) = _; congr 1; omega, by omega, by omega, by omega, by omega, by omega, fun r H4 hr ⟨rv, er, pr⟩ s4 => ?_⟩
        have lr := pr.length
        have few := cutsM_few k (b + 1 + (i : Int)) e
        rw [show (e - (b + 1 + (i : Int) + 1)).toNat = (e - (b + 1)).toNat - i - 1 by omega] at few
        have dbl : 2 ^ ((e - (b + 1)).toNat - i) = 2 ^ ((e - (b + 1)).toNat - i - 1) * 2 := by
          rw [← Nat.pow_succ]
          congr 1
          omega
        have p2 := pow12 (n := (e - (b + 1)).toNat - i - 1) (by omega)
        have s03 := s3
        refine ⟨r, rfl, ⟨_, SqL.of er⟩, fun D hD => ?_⟩
        have ef4 := s4 _ _ ef3
        have nDf := ne_of_none ef4 hD
        refine lc_list (K := K) (a := r) (xs := rv) (fun j H' => ∃ ws, H' D = some (.lst ws) ∧ Paired (IL (fun l => H l = none ∧ l ≠ f ∧ l ≠ D) H') ws (((cutsM k (b + 1 + (i : Int)) e).take j).map fun r => (b + 1 + (i : Int)) :: r) ∧ Same H4 H') ⟨[], upd_same, .nil, Rs.Same.new hD⟩ ?_ ?_ ?_
        · rintro j H' _ ⟨_, _, _, s⟩
          exact SqL.of (s _ _ er)
        · rintro j v H5 hj ⟨ws, eD, pw', s5⟩
          obtain ⟨c, hc, l, rfl, hl, elc⟩ := P2.get pr hj
          have lw := pw'.length
          rw [List.length_map, List.length_take] at lw
          have clen := cutsM_lens (show b + 1 + (i : Int) < e by omega) (List.mem_of_getElem? hc)
          refine ⟨rfl, lc_yes ⟨_, rfl, szle (by show 1 ≤ 100000; decide), fun t ht => ⟨_, rfl, ?_⟩⟩⟩
          have s6 : Same H5 (upd H5 t (.lst [.int (b + 1 + (i : Int))])) := Rs.Same.new ht
          have et : upd H5 t (.lst [.int (b + 1 + (i : Int))]) t = some _ := upd_same
          generalize upd H5 t (.lst [.int (b + 1 + (i : Int))]) = H6 at s6 et ⊢
          have s46 := s5.trans s6
          refine ⟨t, l, _, _, rfl, rfl, et, s46 _ _ elc, szle (by rw [List.length_map]; show 1 + c.length ≤ 100000; omega), fun q hq => ?_⟩
          have s7 : Same H6 (upd H6 q (.lst ([.int (b + 1 + (i : Int))] ++ c.map V.int))) := Rs.Same.new hq
          have eq : upd H6 q (.lst ([.int (b + 1 + (i : Int))] ++ c.map V.int)) q = some _ := upd_same
          have q0 : H q = none := (s03.trans (s4.trans s46)).free hq
          have qf : q ≠ f := (ne_of_none (s46 _ _ ef4) hq).symm
          have qD : q ≠ D := (ne_of_none (s6 _ _ eD) hq).symm
          generalize upd H6 q (.lst ([.int (b + 1 + (i : Int))] ++ c.map V.int)) = H7 at s7 eq ⊢
          have s57 := s6.trans s7
          refine ⟨ws, s57 _ _ eD, szlt (by omega), _, upd_same, ?_, Rs.Same.mut (s5.trans s57) hD⟩
          rw [List.take_succ, hc, List.map_append]
          exact P2.app (P2.mono (fun v c h => h.keep (fun l o n e => up (s57 _ _ e) n.2.2) fun _ n => n) pw') (P2.one ⟨q, rfl, ⟨q0, qf, qD⟩, up eq qD⟩)
        · rintro H5 ⟨ws, eD, pw', s5⟩
          rw [List.take_of_length_le (by omega)] at pw'
          have lw := pw'.length
          rw [List.length_map] at lw
          have ef5 := s5 _ _ ef4
          refine ⟨f, D, _, _, rfl, rfl, ef5, eD, szle (by omega), _, _, _, rfl, upd_same, ?_, ?_, Rs.Same.mut (s03.trans (s4.trans s5)) f0⟩
          · rw [List.range_succ, List.map_append, List.flatten_append, List.map_singleton, List.flatten_singleton, ← List.cons_append]
            exact P2.app (P2.mono (fun v c h => h.keep (fun l o n e => up ((s4.trans s5) _ _ e) n.2) fun _ n => n) pv) (P2.mono (fun v c h => h.keep (fun l o n e => up e n.2.1) fun _ n => ⟨n.1, n.2.1⟩) pw')
          · rw [List.length_append, show (e - (b + 1)).toNat - (i + 1) = (e - (b + 1)).toNat - i - 1 by omega]
            omega
      · rintro σ H3 ⟨vs, x4, x5, rfl, ef3, pv, len, s3⟩
        exact ⟨_, rfl, kq f H3 f0 ⟨vs, ef3, P2.mono (fun v c h => h.keep (fun _ _ _ e => e) fun _ n => n.1) pv⟩ s3⟩
end Rs

namespace Rs
open PySem PySem.Spec PyProof.Rows L2
open LamX
abbrev N_paper : List Str := ["lengths", "ways", "costs", "begin", "end"]
abbrev P_paper : List Str := ["lengths", "ways"]
def TripAt : Rel ((Int × Int) × Int) := fun H v q => IsTp H v [.int q.1.1, .int q.1.2, .int q.2]
theorem TripAt.st : Stable TripAt := fun _ _ _ _ t h => IsTp.mono t h
def sp_paper (K : PySem.W.Frag) : Sp := fun vs H Q E => match vs with
  | [lv, wv] => ∃ (l : Addr) (ls : List Int) (w : Nat), lv = .ref l ∧ H l = some (.lst (ls.map V.int)) ∧ GoodLens ls ∧ wv = .int (w : Int) ∧ 2 ≤ w ∧ w ≤ 6 ∧
    ∀ f H' cl el (tl : Costs), H f = none → Lst TripAt H' f tl → NbOk (stretchL ls.length) ls w cl el → (tl.map (·.1)).Perm (stretchL ls.length) → (tl.map (·.1)).Pairwise LeL → (∀ q ∈ tl, q.2 = cOf cl q.1.1 q.1.2) → Same H H' → Q (.ref f) H'
  | _ => False
def t_paper (K : PySem.W.Frag) (E : XK) : TS := (tSeq (tDrop (tCall (sp_need_lengths K) [] E (tCons (tVar 0) tNil)))
  (tSeq (tDrop (tCall (sp_need_ways K) [] E (tCons (tVar 1) tNil)))
   (tSeq (tAsg (tOpC (rIxT K) (tCall (sp_neighbours_of K) [] E (tCons (tCB1 (xList K) (tVar 0)) (tCons (tVar 1) tNil))) (.int 0)) (gName 2))
    (tRet (tLc (iList K (tCB1 rSortedKT (tVar 2))) (gTup K 2 (gCons (gName 3) (gCons (gName 4) gNil))) tYes (tTup (tCons (tVar 3) (tCons (tVar 4) (tCons (tDGet (tVar 2) (tTup (tCons (tVar 3) (tCons (tVar 4) tNil)))) tNil)))) [3, 4])))))
theorem enc_keys (cl : Costs) : (encC cl).map (·.1) = (cl.map (·.1)).map kkP := by
  unfold encC
  rw [List.map_map, List.map_map]
  rfl
theorem cLook_in {cl : Costs} {b e : Int} (h : (b, e) ∈ cl.map (·.1)) : cLook cl b e = some (cOf cl b e) := by
  unfold cOf
  cases q : cLook cl b e with
  | some x => rfl
  | none =>
    exfalso
    unfold cLook at q
    rw [Option.map_eq_none_iff, List.find?_eq_none] at q
    obtain ⟨r, hr, e2⟩ := List.mem_map.mp h
    exact q r hr (decide_eq_true e2)
theorem pure_paper {K : PySem.W.Frag} : ∀ vs H Q E, sp_paper K vs H Q E → t_paper K E { nx := fun _ H' => Q .non H', rt := Q } (start N_paper vs) H := by
  intro vs H Q E hyp
  match vs, hyp with
  | [lv, wv], hyp =>
    obtain ⟨l, ls, w, rfl, hl, g, rfl, w2, w6, k⟩ := hyp
    have g1 := g.pos
    have g4 := g.le
    refine ⟨_, rfl, l, ls, rfl, hl, g, fun H1 s1 => ?_⟩
    refine ⟨_, rfl, _, rfl, by omega, by omega, fun H2 s2 => ?_⟩
    have s02 := s1.trans s2
    refine ⟨_, rfl, l, _, rfl, .inl (SqL.of (s02 _ _ hl)), fun f hf => ⟨_, rfl, ?_⟩⟩
    have s3 : Same H2 (upd H2 f (.lst (ls.map V.int))) := Rs.Same.new hf
    have ef : upd H2 f (.lst (ls.map V.int)) f = some (.lst (ls.map V.int)) := upd_same
    generalize upd H2 f (.lst (ls.map V.int)) = H3 at s3 ef ⊢
    refine ⟨f, ls, w, rfl, ef, by omega, rfl, w2, w6, fun t dc de cl ek el H4 ht hdc et edc ede EV N s4 => ?_⟩
    have s04 := (s02.trans s3).trans s4
    refine ixT ⟨t, rfl, et⟩ (j := 0) rfl rfl ?_
    refine ⟨_, rfl, dc, encC cl, cl.map (·.1), rfl, edc, enc_keys cl, fun zs ps p pp up pz hp => ?_⟩
    have s5 : Same H4 (upd H4 p (.lst zs)) := Rs.Same.new hp
    have ep : upd H4 p (.lst zs) p = some (.lst zs) := upd_same
    generalize upd H4 p (.lst zs) = H5 at s5 ep ⊢
    have sl := stretch_len (n := ls.length) g4
    have pl := pp.length_eq
    rw [N.keys] at pp pl
    have lz : zs.length = ps.length := Paired.length pz
    refine ⟨p, rfl, ⟨_, SqL.of ep⟩, fun D hD => ?_⟩
    refine lcm_list (R := fun H v (q : Int × Int) => IsTp H v [.int q.1, .int q.2]) (S := TripAt) (fun q : Int × Int => some (q, cOf cl q.1 q.2)) TripAt.st ep (P2.mono (fun v q h => IsTp.mono (TupLe.same s5) h) pz) hD ?_ (by omega) ?_
    · intro j v x H' hx hj r s skip put
      obtain ⟨a, rfl, ea⟩ := r
      have xm : (x.1, x.2) ∈ cl.map (·.1) := by
        rw [N.keys]
        exact pp.mem_iff.mp (List.mem_of_getElem? hx)
      have ed := (s5.trans s) _ _ edc
      refine ⟨a, _, rfl, SqT.of (s _ _ ea), rfl, _, _, rfl, _, _, rfl, rfl, rfl, lc_yes ⟨_, rfl, _, rfl, _, rfl, _, rfl, _, rfl, szle (by show 2 ≤ 100000; decide), fun t2 ht2 => ?_⟩⟩
      have s6 : Same H' (upd H' t2 (.tup [.int x.1, .int x.2])) := Rs.Same.new ht2
      have et2 : upd H' t2 (.tup [.int x.1, .int x.2]) t2 = some (.tup ((kk x.1 x.2).map kV)) := upd_same
      generalize upd H' t2 (.tup [.int x.1, .int x.2]) = H6 at s6 et2 ⊢
      have ev : valV (encC cl) (kk x.1 x.2) = some (V.int (cOf cl x.1 x.2)) := by rw [enc_val, cLook_in xm]; rfl
      refine ⟨dc, .int (cOf cl x.1 x.2), rfl, by rw [← ev]; exact DGet.t (s6 _ _ ed) et2, szle (by show 3 ≤ 100000; decide), fun t3 ht3 => ?_⟩
      exact put _ _ _ (s6.trans (Rs.Same.new ht3)) rfl ⟨t3, rfl, upd_same⟩
    · intro H6 L s6
      rw [fm_some] at L
      have s06 := (s04.trans s5).trans s6
      refine k D H6 cl el _ ((s04.trans s5).free hD) L N ?_ ?_ (fun q hq => ?_) s06
      · rw [List.map_map]
        have e : (ps.map ((fun q : (Int × Int) × Int => q.1) ∘ fun q => (q, cOf cl q.1 q.2))) = ps := List.map_id'' (fun _ => rfl) ps
        rw [e]
        exact pp
      · rw [List.map_map]
        have e : (ps.map ((fun q : (Int × Int) × Int => q.1) ∘ fun q => (q, cOf cl q.1 q.2))) = ps := List.map_id'' (fun _ => rfl) ps
        rw [e]
        exact up
      · obtain ⟨x, _, rfl⟩ := List.mem_map.mp hq
        rfl
abbrev N_law_due : List Str := ["_law_lengths_here", "_law_ways", "_law_told_here", "_law_many", "_law_numbers", "_law_begin", "_law_end", "_law_number", "_law_cut", "_law_total", "_law_here", "_law_place"]
abbrev P_law_due : List Str := ["_law_lengths_here", "_law_ways", "_law_told_here"]
def Due (w : Nat) (ls : List Int) (tl : Costs) : Prop := (tl.map (·.1)).Perm (stretchL ls.length) ∧ Shown w ls (cOf tl)
def sp_law_due (K : PySem.W.Frag) : Sp := fun vs H Q E => match vs with
  | [lv, wv, tv] => ∃ (l : Addr) (ls : List Int) (w : Nat) (lt : Addr) (tl : Costs), lv = .ref l ∧ H l = some (.lst (ls.map V.int)) ∧ GoodLens ls ∧ ls.length ≤ 12 ∧ wv = .int (w : Int) ∧ 2 ≤ w ∧ w ≤ 6 ∧ tv = .ref lt ∧ Lst TripAt H lt tl ∧ tl.length ≤ 1000 ∧
    (Due w ls tl → ∀ H', Same H H' → Q (.int (cOf tl 0 (ls.length : Int))) H') ∧ (¬ Due w ls tl → ∀ t H', H t = none → H' t = some (.tup [.str "BadPaper", .int 0]) → Same H H' → Q (.ref t) H')
  | _ => False
def t_law_due (K : PySem.W.Frag) (E : XK) : TS := (tSeq (tAsg (tCB1 (xLen K) (tVar 0)) (gName 3))
  (tSeq (tAsg tDNewT (gName 4))
   (tSeq (tFor (iList K (tVar 2)) (gTup K 3 (gCons (gName 5) (gCons (gName 6) (gCons (gName 7) gNil)))) 
      (tSeq (tIfS (tOr (tB (tDIn (tTup (tCons (tVar 5) (tCons (tVar 6) tNil))) (tVar 4))) (tOr (tNot (tTest (tOpD xLe (.int 0) (tVar 5)))) (tNot (tTest (tChain xLe xLe (tOpC xAdd (tVar 5) (.int 2)) (tVar 6) (tVar 3)))))) (tRet (tTup (tConsC (.str "BadPaper") (tConsC (.int 0) tNil)))) tNext)
      (sDPut (tVar 4) (tTup (tCons (tVar 5) (tCons (tVar 6) tNil))) (tVar 7))))
    (tSeq (tIfS (tTest (tOp rNe (tCB1 rLenT (tVar 4)) (tOpC xDiv (tOp xMul (tVar 3) (tOpC xSub (tVar 3) (.int 1))) (.int 2)))) (tRet (tTup (tConsC (.str "BadPaper") (tConsC (.int 0) tNil)))) tNext)
     (tSeq (tLock (tFor (iKeys (tVar 4)) (gTup K 2 (gCons (gName 5) (gCons (gName 6) gNil))) (tFor (iList K (tSl (rSlL K) (tCall (sp_law_cuts K) [] E (tCons (tVar 5) (tCons (tVar 6) (tCons (tVar 1) tNil)))) (tPart (tC (.int 1))) tNoPart)) (gName 8) (tSeq (tAsg (tCB1 (rSum K) (tSl (rSlL K) (tVar 0) (tPart (tVar 5)) (tPart (tVar 6)))) (gName 9)) (tSeq (tAsg (tVar 5) (gName 10)) (tSeq (tFor (iList K (tVar 8)) (gName 11) (tSeq (tAsg (tOp xAdd (tVar 9) (tDGet2 (tVar 4) (tTup (tCons (tVar 10) (tCons (tVar 11) tNil))) (tC (.int 0)))) (gName 9)) (tAsg (tVar 11) (gName 10)))) (tIfS (tTest (tOp xGt (tDGet (tVar 4) (tTup (tCons (tVar 5) (tCons (tVar 6) tNil)))) (tVar 9))) (tRet (tTup (tConsC (.str "BadPaper") (tConsC (.int 0) tNil)))) tNext)))))))
      (tRet (tDGet2 (tVar 4) (tTup (tConsC (.int 0) (tCons (tVar 3) tNil))) (tC (.int 0)))))))))
theorem stretch_nd (n : Nat) : (stretchL n).Nodup := List.Pairwise.imp (fun {x y} h e => by
  subst e
  rcases h with z | ⟨_, z⟩ <;> exact absurd z (Int.lt_irrefl _)) (stretch_pw n)
theorem stretch_count {n : Nat} (h : n ≤ 12) : (stretchL n).length = n * (n - 1) / 2 := by
  have : ∀ n : Nat, n < 13 → (stretchL n).length = n * (n - 1) / 2 := by decide +kernel
  exact this n (by omega)
theorem perm_of_few {α : Type} [DecidableEq α] {a b : List α} (na : a.Nodup) (nb : b.Nodup) (s : ∀ x ∈ a, x ∈ b) (l : a.length = b.length) : a.Perm b := by
  refine (List.perm_ext_iff_of_nodup na nb).mpr fun x => ⟨s x, fun hx => ?_⟩
  by_cases c : x ∈ a
  · exact c
  · exfalso
    have nd : (x :: a).Nodup := List.nodup_cons.mpr ⟨c, na⟩
    have := nd.length_le_of_subset (l₂ := b) fun y hy => by
      rcases List.mem_cons.mp hy with rfl | z
      · exact hx
      · exact s y z
    rw [List.length_cons] at this
    omega
theorem cut_snocD {c : Int → Int → Int} : ∀ (ps : List Int) (b t : Int), cutSum c b (ps ++ [t]) = cutSum c b ps + c (ps.getLastD b) t
  | [], b, t => by simp [cutSum]
  | p :: ps, b, t => by
    show c b p + cutSum c p (ps ++ [t]) = c b p + cutSum c p ps + c ((p :: ps).getLastD b) t
    rw [cut_snocD ps p t, List.getLastD_cons]
    omega
theorem pure_law_due {K : PySem.W.Frag} : ∀ vs H Q E, sp_law_due K vs H Q E → t_law_due K E { nx := fun _ H' => Q .non H', rt := Q } (start N_law_due vs) H := by
  intro vs H Q E hyp
  match vs, hyp with
  | [lv, wv, tv], hyp =>
    obtain ⟨l, ls, w, lt, tl, rfl, hl, g, l12, rfl, w2, w6, rfl, ⟨tv, et, pt⟩, few, kg, kb⟩ := hyp
    have lt_ := pt.length
    have g1 := g.pos
    have bad : ∀ H1, Same H H1 → ¬ Due w ls tl → (tTup (tConsC (.str "BadPaper") (tConsC (.int 0) tNil))) [] H1 Q := fun H1 s1 nd => ⟨szle (by show 2 ≤ 100000; decide), fun t ht => kb nd t _ (s1.free ht) upd_same (s1.trans (Rs.Same.new ht))⟩
    refine ⟨_, rfl, lenL hl rfl fun d hd => ?_⟩
    rw [List.length_map]
    have d0 := hd
    have s1 : Same H (upd H d (.dT [])) := Rs.Same.new hd
    have ed : upd H d (.dT []) d = some (.dT (encC (tl.take 0))) := upd_same
    generalize upd H d (.dT []) = H1 at s1 ed ⊢
    refine ⟨_, rfl, lt, rfl, ⟨_, SqL.of (s1 _ _ et)⟩, ?_⟩
    refine for_list (K := K) (a := lt) (xs := tv) (fun i σ H' => ∃ (x5 x6 x7 : Option V), σ = [some (.ref l), some (.int (w : Int)), some (.ref lt), some (.int (ls.length : Int)), some (.ref d), x5, x6, x7, none, none, none, none] ∧ H' d = some (.dT (encC (tl.take i))) ∧ ((tl.take i).map (·.1)).Nodup ∧ (∀ q ∈ (tl.take i).map (·.1), q ∈ stretchL ls.length) ∧ Same H H')
      ⟨none, none, none, rfl, ed, by simp, by simp, s1⟩ ?_ ?_ ?_
    · rintro i σ H' _ ⟨_, _, _, _, _, _, _, s⟩
      exact SqL.of (s _ _ et)
    · rintro i v σ H2 hi ⟨x5, x6, x7, rfl, ed2, nd, ins, s2⟩
      obtain ⟨⟨⟨b, e⟩, n⟩, hq, a, rfl, ea⟩ := P2.get pt hi
      have ea2 := s2 _ _ ea
      have hil := (List.getElem?_eq_some_iff.mp hi).1
      have tk : tl.take (i + 1) = tl.take i ++ [((b, e), n)] := by rw [List.take_succ, hq] <;> rfl
      have hmem : ((b, e), n) ∈ tl := List.mem_of_getElem? hq
      dsimp only at ea2
      refine ⟨a, _, rfl, SqT.of ea2, rfl, _, _, rfl, _, _, rfl, _, _, rfl, rfl, ?_⟩
      refine ⟨_, rfl, _, rfl, szle (by show 2 ≤ 100000; decide), fun t1 ht1 => ?_⟩
      have s3 : Same H2 (upd H2 t1 (.tup [.int b, .int e])) := Rs.Same.new ht1
      have et1 : upd H2 t1 (.tup [.int b, .int e]) t1 = some (.tup ((kk b e).map kV)) := upd_same
      generalize upd H2 t1 (.tup [.int b, .int e]) = H3 at s3 et1 ⊢
      have s03 := s2.trans s3
      have ed3 := s3 _ _ ed2
      refine ⟨_, rfl, d, _, rfl, DGet.t (k := kk b e) ed3 et1, _, rfl, ?_⟩
      by_cases c : (b, e) ∈ (tl.take i).map (·.1)
      · have ev : (valV (encC (tl.take i)) (kk b e)).isSome = true := by rw [enc_val, cLook_in c]; rfl
        rw [ev]
        refine bad H3 s03 fun D => ?_
        have nn : (tl.map (·.1)).Nodup := D.1.nodup_iff.mpr (stretch_nd _)
        have nn2 := nn.sublist ((List.take_sublist (i + 1) tl).map _)
        rw [tk, List.map_append, List.nodup_append] at nn2
        exact nn2.2.2 _ c _ (List.mem_singleton.mpr rfl) rfl
      · have ev : (valV (encC (tl.take i)) (kk b e)).isSome = false := by rw [enc_val, look_none c]; rfl
        rw [ev]
        refine ⟨_, rfl, _, _, rfl, rfl, _, rfl, ?_⟩
        have nin : ¬ (b, e) ∈ stretchL ls.length → ¬ Due w ls tl := fun z D => z (D.1.mem_iff.mp (List.mem_map.mpr ⟨_, hmem, rfl⟩))
        by_cases c1 : (0 : Int) ≤ b
        rotate_left
        · rw [decide_eq_false c1]
          exact bad H3 s03 (nin fun z => c1 (stretch_mem.mp z).1)
        rw [decide_eq_true c1]
        refine ⟨_, rfl, _, _, rfl, rfl, _, rfl, _, _, rfl, rfl, _, rfl, ?_⟩
        by_cases c2 : b + 2 ≤ e
        rotate_left
        · rw [decide_eq_false c2, if_neg Bool.false_ne_true]
          exact ⟨_, rfl, bad H3 s03 (nin fun z => c2 (stretch_mem.mp z).2.1)⟩
        rw [decide_eq_true c2]
        refine ⟨_, rfl, _, _, rfl, rfl, _, rfl, ?_⟩
        by_cases c3 : e ≤ (ls.length : Int)
        rotate_left
        · rw [decide_eq_false c3]
          exact bad H3 s03 (nin fun z => c3 (stretch_mem.mp z).2.2)
        rw [decide_eq_true c3]
        refine ⟨_, rfl, _, rfl, _, rfl, _, rfl, szle (by show 2 ≤ 100000; decide), fun t2 ht2 => ?_⟩
        have s4 : Same H3 (upd H3 t2 (.tup [.int b, .int e])) := Rs.Same.new ht2
        have et2 : upd H3 t2 (.tup [.int b, .int e]) t2 = some (.tup ((kk b e).map kV)) := upd_same
        generalize upd H3 t2 (.tup [.int b, .int e]) = H4 at s4 et2 ⊢
        have ec : putK (encC (tl.take i)) (kk b e) (V.int n) = encC (tl.take (i + 1)) := by
          rw [putK_new _ (by rw [enc_val, look_none c]; rfl), tk]
          unfold encC
          rw [List.map_append]
          rfl
        refine ⟨d, _, rfl, DPut.t (k := kk b e) (s4 _ _ ed3) et2 (szlt (by unfold encC; rw [List.length_map, List.length_take]; omega)), ?_⟩
        rw [ec]
        refine ⟨_, _, _, rfl, upd_same, ?_, ?_, Rs.Same.mut (s03.trans s4) d0⟩
        · rw [tk, List.map_append, List.nodup_append]
          exact ⟨nd, by simp, fun x hx y hy z => c (by
            have hy : y = (b, e) := by simpa using hy
            rw [← hy, ← z]
            exact hx)⟩
        · intro q hq
          rw [tk, List.map_append] at hq
          rcases List.mem_append.mp hq with z | z
          · exact ins q z
          · rw [List.map_singleton, List.mem_singleton] at z
            rw [z]
            exact stretch_mem.mpr ⟨c1, c2, c3⟩
    · rintro σ H2 ⟨x5, x6, x7, rfl, ed2, nd, ins, s2⟩
      rw [List.take_of_length_le (by omega)] at ed2 nd ins
      have lenc : (encC tl).length = tl.length := by unfold encC; rw [List.length_map]
      refine ⟨_, rfl, d, _, rfl, ed2, _, rfl, _, rfl, _, _, rfl, rfl, _, _, rfl, rfl, .inl ⟨by omega, by omega⟩, _, _, rfl, rfl, div_ok (by decide) (by decide), rfl, _, rfl, ?_⟩
      have cnt := stretch_count l12
      have ecnt : (ls.length : Int) * ((ls.length : Int) - 1) / 2 = (((stretchL ls.length).length : Nat) : Int) := by
        rw [cnt]
        have : (ls.length : Int) * ((ls.length : Int) - 1) = ((ls.length * (ls.length - 1) : Nat) : Int) := by
          rw [Int.natCast_mul, Int.natCast_sub g1]
          rfl
        rw [this]
        rfl
      dsimp only
      rw [lenc]
      have lkeys : (tl.map (·.1)).length = tl.length := List.length_map _
      by_cases c : tl.length = (stretchL ls.length).length
      rotate_left
      · have ez : decide (V.int ((tl.length : Nat) : Int) = V.int ((ls.length : Int) * ((ls.length : Int) - 1) / 2)) = false := decide_eq_false fun z => c (by injection z with z; omega)
        rw [ez]
        exact bad H2 s2 fun D => c (by rw [← lkeys]; exact D.1.length_eq)
      have ez : decide (V.int ((tl.length : Nat) : Int) = V.int ((ls.length : Int) * ((ls.length : Int) - 1) / 2)) = true := decide_eq_true (by rw [ecnt, c])
      rw [ez]
      have pm : (tl.map (·.1)).Perm (stretchL ls.length) := perm_of_few nd (stretch_nd _) ins (by omega)
      clear ins nd
      have s2' := s2
      refine ⟨d, _, ed2, trivial, fun od => ?_⟩
      have s8 : Same H (upd H2 d (.frz od (.dT (encC tl)))) := Rs.Same.mut s2 d0
      have ed8 : upd H2 d (.frz od (.dT (encC tl))) d = some _ := upd_same
      generalize upd H2 d (.frz od (.dT (encC tl))) = H8 at s8 ed8 ⊢
      refine ⟨_, rfl, d, od, rfl, .inr ⟨encC tl, ed8, ?_⟩⟩
      refine for_it (walk_keysT (d := d) (o := od) (kvs := encC tl)) (fun i σ H' => ∃ (x5 x6 x7 x8 x9 x10 x11 : Option V), σ = [some (.ref l), some (.int (w : Int)), some (.ref lt), some (.int (ls.length : Int)), some (.ref d), x5, x6, x7, x8, x9, x10, x11] ∧ H' d = some (.frz od (.dT (encC tl))) ∧ Same H H' ∧
          (∀ b e, (∃ j, j < i ∧ (tl.map (·.1))[j]? = some (b, e)) → ∀ qs, Asc b qs e → 2 ≤ qs.length → qs.length ≤ w → cOf tl b e ≤ cutSum (cOf tl) b qs + (segL ls b e).sum))
        ⟨x5, x6, x7, none, none, none, none, rfl, ed8, s8, fun b e ⟨j, z, _⟩ => by omega⟩ ?_ ?_ ?_
      · rintro i σ H' _ ⟨_, _, _, _, _, _, _, _, h, _⟩
        exact h
      · rintro i x σ _ H9 hi ⟨x5, x6, x7, x8, x9, x10, x11, rfl, ed9, s9, dn⟩ ⟨rfl, kk_, v_, q_, hk, rfl, eq9⟩
        have hit : i < tl.length := by omega
        have hkk : kk_ = kk (tl[i]).1.1 (tl[i]).1.2 ∧ v_ = V.int (tl[i]).2 := by
          unfold encC at hk
          rw [List.getElem?_map, List.getElem?_eq_getElem hit] at hk
          injection hk with hk
          injection hk with a b
          exact ⟨a.symm, b.symm⟩
        obtain ⟨rfl, rfl⟩ := hkk
        have hmem : (tl.map (·.1))[i]? = some (tl[i]).1 := by rw [List.getElem?_map, List.getElem?_eq_getElem hit]; rfl
        generalize hq : tl[i] = q at hk eq9 hmem
        obtain ⟨⟨b, e⟩, num⟩ := q
        dsimp only at hk eq9 hmem
        have hin : (b, e) ∈ tl.map (·.1) := List.mem_of_getElem? hmem
        have hst : (b, e) ∈ stretchL ls.length := pm.mem_iff.mp hin
        obtain ⟨m0, m2, mn⟩ := stretch_mem.mp hst
        dsimp only at m0 m2 mn
        have ev : valV (encC tl) (kk b e) = some (V.int (cOf tl b e)) := by rw [enc_val, cLook_in hin]; rfl
        have eq9 : H9 q_ = some (.tup [.int b, .int e]) := eq9
        refine ⟨q_, _, rfl, SqT.of eq9, rfl, _, _, rfl, _, _, rfl, rfl, ?_⟩
        obtain ⟨k, hkw⟩ : ∃ k : Nat, w = k + 1 := ⟨w - 1, by omega⟩
        refine ⟨_, rfl, _, rfl, _, rfl, b, e, k, rfl, rfl, by rw [hkw]; rfl, by omega, by omega, m0, by omega, by omega, fun r H10 hr ⟨rv, er, pr⟩ s10 => ?_⟩
        have lr := pr.length
        have few2 := cutsM_few k b e
        have pw := pow12 (n := (e - (b + 1)).toNat) (by omega)
        have hcons : 1 ≤ rv.length := by
          obtain ⟨t, ht⟩ := cutsM_cons k b e
          rw [lr, ht, List.length_cons]
          omega
        refine ⟨_, rfl, r, _, rfl, SqL.of er, fun p hp => ?_⟩
        have ep0 : cutV rv (some ((1 : Nat) : Int)) none = rv.drop 1 := cut_from hcons
        have s11 : Same H10 (upd H10 p (.lst (cutV rv (some 1) none))) := Rs.Same.new hp
        have ep : upd H10 p (.lst (cutV rv (some 1) none)) p = some (.lst (rv.drop 1)) := by rw [upd_same, ← ep0]; rfl
        generalize upd H10 p (.lst (cutV rv (some 1) none)) = H11 at s11 ep ⊢
        have s911 := s10.trans s11
        have pr2 : Paired (IL (fun l => H9 l = none) H11) (rv.drop 1) ((cutsM k b e).drop 1) := P2.mono (fun v c h => h.keep (fun l o _ e => s11 _ _ e) fun _ n => n) (P2.drop 1 pr)
        have ed11 := s911 _ _ ed9
        refine ⟨p, rfl, ⟨_, SqL.of ep⟩, ?_⟩
        refine for_list (K := K) (a := p) (xs := rv.drop 1) (fun j σ H' => ∃ (y8 y9 y10 y11 : Option V), σ = [some (.ref l), some (.int (w : Int)), some (.ref lt), some (.int (ls.length : Int)), some (.ref d), some (.int b), some (.int e), x7, y8, y9, y10, y11] ∧ Same H11 H' ∧ (∀ i', i' < j → ∀ qs, ((cutsM k b e).drop 1)[i']? = some qs → cOf tl b e ≤ cutSum (cOf tl) b qs + (segL ls b e).sum))
          ⟨x8, x9, x10, x11, rfl, fun _ _ h => h, fun i' z => by omega⟩ ?_ ?_ ?_
        · rintro j σ H' _ ⟨_, _, _, _, _, s, _⟩
          exact SqL.of (s _ _ ep)
        · rintro j v σ H12 hj ⟨y8, y9, y10, y11, rfl, s12, dn2⟩
          obtain ⟨qs, hqs, lq, rfl, _, elq⟩ := P2.get pr2 hj
          have s0 := s9.trans (s911.trans s12)
          have elq2 := s12 _ _ elq
          have eb : b = ((b.toNat : Nat) : Int) := by omega
          have ee : e = ((e.toNat : Nat) : Int) := by omega
          refine ⟨_, rfl, _, rfl, _, rfl, _, rfl, _, rfl, l, _, rfl, SqL.of (s0 _ _ hl), fun p2 hp2 => ⟨p2, segL ls b e, rfl, SqL.of ?_, ?_⟩⟩
          · rw [upd_same]
            congr 2
            conv => lhs; rw [eb, ee]
            rw [cut_mid]
            unfold segL
            rw [List.map_take, List.map_drop]
          have s13 : Same H12 (upd H12 p2 (.lst (cutV (ls.map V.int) (some b) (some e)))) := Rs.Same.new hp2
          generalize upd H12 p2 (.lst (cutV (ls.map V.int) (some b) (some e))) = H13 at s13 ⊢
          refine ⟨_, rfl, _, rfl, lq, rfl, ⟨_, SqL.of (s13 _ _ elq2)⟩, ?_⟩
          have ed13 := (s12.trans s13) _ _ ed11
          refine for_list (K := K) (a := lq) (xs := qs.map V.int) (fun m σ H' => ∃ (y11 : Option V), σ = [some (.ref l), some (.int (w : Int)), some (.ref lt), some (.int (ls.length : Int)), some (.ref d), some (.int b), some (.int e), x7, some (.ref lq), some (.int ((segL ls b e).sum + cutSum (cOf tl) b (qs.take m))), some (.int ((qs.take m).getLastD b)), y11] ∧ Same H13 H')
            ⟨y11, by rw [List.take_zero]; show _ = [some (V.ref l), some (V.int (w : Int)), some (V.ref lt), some (V.int (ls.length : Int)), some (V.ref d), some (V.int b), some (V.int e), x7, some (V.ref lq), some (V.int ((segL ls b e).sum + 0)), some (V.int b), y11]; rw [Int.add_zero]; rfl, fun _ _ h => h⟩ ?_ ?_ ?_
          · rintro m σ H' _ ⟨_, _, s⟩
            exact SqL.of (s _ _ (s13 _ _ elq2))
          · rintro m v σ H14 hm ⟨y11, rfl, s14⟩
            rw [List.getElem?_map] at hm
            obtain ⟨z, hz, rfl⟩ := Option.map_eq_some_iff.mp hm
            have tk : qs.take (m + 1) = qs.take m ++ [z] := by rw [List.take_succ, hz] <;> rfl
            refine ⟨_, rfl, _, rfl, d, rfl, .inr ⟨_, .inr ⟨od, s14 _ _ ed13⟩⟩, _, rfl, _, rfl, szle (by show 2 ≤ 100000; decide), fun t1 ht1 => ?_⟩
            have s15 : Same H14 (upd H14 t1 (.tup [.int ((qs.take m).getLastD b), .int z])) := Rs.Same.new ht1
            have et1 : upd H14 t1 (.tup [.int ((qs.take m).getLastD b), .int z]) t1 = some (.tup ((kk ((qs.take m).getLastD b) z).map kV)) := upd_same
            generalize upd H14 t1 (.tup [.int ((qs.take m).getLastD b), .int z]) = H15 at s15 et1 ⊢
            refine ⟨_, .inr ⟨encC tl, kk ((qs.take m).getLastD b) z, t1, .inr ⟨od, (s14.trans s15) _ _ ed13⟩, rfl, et1, rfl⟩, ?_⟩
            rw [enc_getD]
            refine ⟨_, _, rfl, rfl, _, rfl, some (.int z), ?_, s14.trans s15⟩
            rw [tk, cut_snocD, List.getLastD_concat, ← Int.add_assoc]
            rfl
          · rintro σ H14 ⟨y11, rfl, s14⟩
            rw [List.take_of_length_le (by rw [List.length_map]; omega)]
            have ed14 := s14 _ _ ed13
            refine ⟨_, rfl, _, rfl, _, rfl, szle (by show 2 ≤ 100000; decide), fun t1 ht1 => ?_⟩
            have s15 : Same H14 (upd H14 t1 (.tup [.int b, .int e])) := Rs.Same.new ht1
            have et1 : upd H14 t1 (.tup [.int b, .int e]) t1 = some (.tup ((kk b e).map kV)) := upd_same
            generalize upd H14 t1 (.tup [.int b, .int e]) = H15 at s15 et1 ⊢
            refine ⟨d, .int (cOf tl b e), rfl, .inr ⟨encC tl, kk b e, t1, .inr ⟨od, s15 _ _ ed14⟩, rfl, et1, ev.symm⟩, _, rfl, _, _, rfl, rfl, _, rfl, ?_⟩
            have hq2 : qs ∈ (cutsM k b e).tail := by rw [← List.drop_one]; exact List.mem_of_getElem? hqs
            obtain ⟨qa, q2, qw⟩ := (cutsM_mem k b e qs (by omega)).2.mp hq2
            by_cases c : (segL ls b e).sum + cutSum (cOf tl) b qs < cOf tl b e
            · rw [decide_eq_true c]
              refine ⟨szle (by show 2 ≤ 100000; decide), fun t ht => ?_⟩
              have sall := s0.trans (s13.trans (s14.trans s15))
              have t0 := sall.free ht
              have ed15 := s15 _ _ ed14
              have ntd : t ≠ d := (ne_of_none ed15 ht).symm
              generalize gX : upd _ t _ = H16
              have s16 := newS ht gX
              have et16 := newE gX
              clear gX
              refine ⟨s16 _ _ ed15, kb (fun D => ?_) t _ t0 (up et16 ntd) (Rs.Same.mut (sall.trans s16) d0)⟩
              have := D.2 b e hst qs qa q2 (by omega)
              omega
            · rw [decide_eq_false c]
              refine ⟨_, _, _, _, rfl, s12.trans (s13.trans (s14.trans s15)), fun i' hi' qs' hq' => ?_⟩
              by_cases z : i' < j
              · exact dn2 i' z qs' hq'
              · obtain rfl : i' = j := by omega
                rw [hqs] at hq'
                cases hq'
                omega
        · rintro σ H12 ⟨y8, y9, y10, y11, rfl, s12, dn2⟩
          refine ⟨_, _, _, _, _, _, _, rfl, s12 _ _ ed11, s9.trans (s911.trans s12), fun b' e' ⟨j, hj, hj2⟩ qs qa q2 qw => ?_⟩
          by_cases z : j < i
          · exact dn b' e' ⟨j, z, hj2⟩ qs qa q2 qw
          · obtain rfl : j = i := by omega
            rw [hmem] at hj2
            injection hj2 with hj2
            injection hj2 with z1 z2
            subst z1 z2
            have hq2 := (cutsM_mem k b e qs (by omega)).2.mpr ⟨qa, q2, by omega⟩
            rw [← List.drop_one] at hq2
            obtain ⟨m, hm, em⟩ := List.getElem_of_mem hq2
            exact dn2 m (by rw [List.length_drop] at hm ⊢; omega) qs (by rw [List.getElem?_eq_getElem hm, em])
      · rintro σ H9 ⟨x5, x6, x7, x8, x9, x10, x11, rfl, ed9, s9, dn⟩
        refine ⟨ed9, ?_⟩
        have s10 : Same H (upd H9 d (.dT (encC tl))) := Rs.Same.mut s9 d0
        have ed10 : upd H9 d (.dT (encC tl)) d = some _ := upd_same
        generalize upd H9 d (.dT (encC tl)) = H10 at s10 ed10 ⊢
        refine ⟨_, rfl, d, rfl, .inr ⟨_, .inl ed10⟩, _, rfl, szle (by show 2 ≤ 100000; decide), fun t1 ht1 => ?_⟩
        have s11 : Same H10 (upd H10 t1 (.tup [.int 0, .int (ls.length : Int)])) := Rs.Same.new ht1
        have et1 : upd H10 t1 (.tup [.int 0, .int (ls.length : Int)]) t1 = some (.tup ((kk 0 (ls.length : Int)).map kV)) := upd_same
        generalize upd H10 t1 (.tup [.int 0, .int (ls.length : Int)]) = H11 at s11 et1 ⊢
        refine ⟨_, DGet.t (k := kk 0 (ls.length : Int)) (s11 _ _ ed10) et1, ?_⟩
        rw [enc_getD]
        refine kg ⟨pm, fun b e hbe qs a q2 qw => ?_⟩ H11 (s10.trans s11)
        obtain ⟨j, hj, ej⟩ := List.getElem_of_mem (pm.mem_iff.mpr hbe)
        exact dn b e ⟨j, by rw [List.length_map] at hj; rw [lenc]; exact hj, by rw [List.getElem?_eq_getElem hj, ej]⟩ qs a q2 qw
abbrev N_bound : List Str := ["lengths", "ways", "told", "costs", "begin", "end", "number"]
abbrev P_bound : List Str := ["lengths", "ways", "told"]
def sp_bound (K : PySem.W.Frag) : Sp := fun vs H Q E => match vs with
  | [lv, wv, tv] => ∃ (l : Addr) (ls : List Int) (w : Nat) (lt : Addr) (tl : Costs), lv = .ref l ∧ H l = some (.lst (ls.map V.int)) ∧ GoodLens ls ∧ wv = .int (w : Int) ∧ 2 ≤ w ∧ w ≤ 6 ∧ tv = .ref lt ∧ Lst TripAt H lt tl ∧ tl.length ≤ 1000 ∧
    (Due w ls tl → ∀ H', Same H H' → Q (.int (cOf tl 0 (ls.length : Int))) H') ∧ (¬ Due w ls tl → ∀ H', Same H H' → E (.ref (He.ga K "BadPaper")) none H')
  | _ => False
def t_bound (K : PySem.W.Frag) (E : XK) : TS := (tSeq (tDrop (tCall (sp_need_lengths K) [] E (tCons (tVar 0) tNil)))
  (tSeq (tDrop (tCall (sp_need_ways K) [] E (tCons (tVar 1) tNil)))
   (tSeq (tAsg (tCB1 (xDictPT K) (tLc (iList K (tVar 2)) (gTup K 3 (gCons (gName 4) (gCons (gName 5) (gCons (gName 6) gNil)))) tYes (tTup (tCons (tTup (tCons (tVar 4) (tCons (tVar 5) tNil))) (tCons (tVar 6) tNil))) [4, 5, 6])) (gName 3))
    (tSeq (tIfS (tOr (tTest (tOp rNe (tCB1 rLenT (tVar 3)) (tCB1 (xLen K) (tVar 2)))) (tTest (tOp (rNeD K) (tCB1 rSortedKT (tVar 3)) (tCB1 (rSortedPO K) (tCall (sp_stretches K) [] E (tCons (tCB1 (xLen K) (tVar 0)) tNil)))))) (tRaise E (.ref (He.ga K "BadPaper"))) tNext)
     (tSeq (tLock (tFor (iKeys (tVar 3)) (gTup K 2 (gCons (gName 4) (gCons (gName 5) gNil))) (tIfS (tTest (tOp xGt (tDGet (tVar 3) (tTup (tCons (tVar 4) (tCons (tVar 5) tNil)))) (tOp xAdd (tOpC (rIxT K) (tCall (sp_cuts_of K) [] E (tCons (tVar 3) (tCons (tVar 4) (tCons (tVar 5) (tCons (tVar 1) tNil))))) (.int 0)) (tCB1 (rSum K) (tSl (rSlL K) (tVar 0) (tPart (tVar 4)) (tPart (tVar 5))))))) (tRaise E (.ref (He.ga K "BadPaper"))) tNext)))
      (tRet (tDGet2 (tVar 3) (tTup (tConsC (.int 0) (tCons (tCB1 (xLen K) (tVar 0)) tNil))) (tC (.int 0)))))))))
theorem kkP_inj {x y : Int × Int} (h : kkP x = kkP y) : x = y := by
  obtain ⟨a, b⟩ := kk_inj (a := x.1) (b := x.2) (c := y.1) (d := y.2) h
  exact Prod.ext a b
theorem mergeT_app : ∀ (more kvs : List (List Key × V)), (more.map (·.1)).Nodup → (∀ p ∈ more, valV kvs p.1 = none) → mergeT kvs more = kvs ++ more
  | [], kvs, _, _ => by simp [mergeT]
  | p :: more, kvs, nd, h => by
    rw [List.map_cons, List.nodup_cons] at nd
    have e : mergeT kvs (p :: more) = mergeT (putK kvs p.1 p.2) more := rfl
    rw [e, putK_new _ (h p (List.mem_cons_self ..)), mergeT_app more _ nd.2 fun q hq => ?_]
    · simp
    · rw [valV_snoc _ _ _ _ (h p (List.mem_cons_self ..)), if_neg (fun z => nd.1 (by rw [← z]; exact List.mem_map_of_mem hq))]
      exact h q (List.mem_cons_of_mem _ hq)
theorem encC_merge {tl : Costs} (nd : (tl.map (·.1)).Nodup) : mergeT [] (encC tl) = encC tl := by
  rw [mergeT_app _ _ _ fun p _ => rfl, List.nil_append]
  rw [enc_keys]
  unfold List.Nodup at nd ⊢
  rw [List.pairwise_map]
  exact List.Pairwise.imp (fun h e => h (kkP_inj e)) nd
def DPairAt : Rel ((Int × Int) × Int) := fun H v q => ∃ t b, v = .ref t ∧ H t = some (.tup [.ref b, .int q.2]) ∧ H b = some (.tup [.int q.1.1, .int q.1.2])
theorem DPairAt.st : Stable DPairAt := fun _ _ _ _ t ⟨a, b, e, h1, h2⟩ => ⟨a, b, e, t _ _ h1, t _ _ h2⟩
theorem dpairs {K : PySem.W.Frag} {H : Hp} : ∀ {vs : List V} {tl : Costs}, Paired (DPairAt H) vs tl → ∃ ps : List Addr, vs = ps.map V.ref ∧ Paired (fun p kv => ∃ b, SqT K H p [.ref b, kv.2] ∧ H b = some (.tup (kv.1.map kV))) ps (encC tl)
  | _, _, .nil => ⟨[], rfl, .nil⟩
  | _, _, .cons ⟨t, b, e, h1, h2⟩ r => by
    obtain ⟨ps, e2, p⟩ := dpairs (K := K) r
    exact ⟨t :: ps, by rw [e, e2]; rfl, .cons ⟨b, SqT.of h1, h2⟩ p⟩
theorem ii_dp {K : PySem.W.Frag} {H : Hp} {v : V} {q : Int × Int} (h : IsTp H v [.int q.1, .int q.2]) : Dp K H v (.tuple [.int q.1, .int q.2]) := by
  obtain ⟨a, rfl, e⟩ := h
  exact .tup (SqT.of e) (.cons (.int _) (.cons (.int _) .nil))
theorem mergeT_le : ∀ (more kvs : List (List Key × V)), (mergeT kvs more).length ≤ kvs.length + more.length
  | [], kvs => Nat.le_refl _
  | p :: more, kvs => by
    have e : mergeT kvs (p :: more) = mergeT (putK kvs p.1 p.2) more := rfl
    rw [e, List.length_cons]
    have a := mergeT_le more (putK kvs p.1 p.2)
    have b := length_putK kvs p.1 p.2
    omega
theorem mergeT_lt : ∀ (more kvs : List (List Key × V)), (¬ (more.map (·.1)).Nodup ∨ ∃ q ∈ more, (valV kvs q.1).isSome = true) → (mergeT kvs more).length < kvs.length + more.length
  | [], kvs, h => by
    rcases h with h | ⟨q, hq, _⟩
    · exact absurd List.nodup_nil h
    · simp at hq
  | p :: more, kvs, h => by
    have e : mergeT kvs (p :: more) = mergeT (putK kvs p.1 p.2) more := rfl
    rw [e, List.length_cons]
    cases hv : valV kvs p.1 with
    | some u =>
      have a := mergeT_le more (putK kvs p.1 p.2)
      have b : (putK kvs p.1 p.2).length = kvs.length := by
        unfold putK
        rw [valV_any, hv]
        simp
      omega
    | none =>
      have b := length_putK kvs p.1 p.2
      have a := mergeT_lt more (putK kvs p.1 p.2) (by
        rw [List.map_cons, List.nodup_cons] at h
        rcases h with h | ⟨q, hq, hs⟩
        · by_cases c : p.1 ∈ more.map (·.1)
          · obtain ⟨q, hq, e⟩ := List.mem_map.mp c
            exact .inr ⟨q, hq, by rw [e, valV_put, if_pos rfl]; rfl⟩
          · exact .inl fun z => h ⟨c, z⟩
        · rcases List.mem_cons.mp hq with rfl | hq
          · rw [hv] at hs; cases hs
          · refine .inr ⟨q, hq, ?_⟩
            rw [valV_put]
            split
            · rfl
            · exact hs)
      omega
def iiD (q : Int × Int) : PyData := .tuple [.int q.1, .int q.2]
theorem eqv_ii : ∀ a b : List (Int × Int), PyData.eqvAll (a.map iiD) (b.map iiD) = decide (a = b)
  | [], [] => by simp [PyData.eqvAll]
  | [], _ :: _ => by simp [PyData.eqvAll]
  | _ :: _, [] => by simp [PyData.eqvAll]
  | x :: a, y :: b => by
    rw [List.map_cons, List.map_cons]
    simp only [PyData.eqvAll]
    rw [eqv_ii a b]
    have e : PyData.eqv (iiD x) (iiD y) = decide (x = y) := by
      unfold iiD
      simp only [PyData.eqv, PyData.eqvAll, Bool.and_true]
      by_cases h : x = y
      · subst h; simp
      · rw [decide_eq_false h]
        by_cases h1 : x.1 = y.1
        · have h2 : x.2 ≠ y.2 := fun z => h (Prod.ext h1 z)
          simp [h2]
        · simp [h1]
    rw [e]
    by_cases h : x = y <;> by_cases g : a = b <;> simp [h, g]
theorem eqv_iiL (a b : List (Int × Int)) : PyData.eqv (.list (a.map iiD)) (.list (b.map iiD)) = decide (a = b) := by
  rw [← eqv_ii]
  simp only [PyData.eqv]
theorem pure_bound {K : PySem.W.Frag} : ∀ vs H Q E, sp_bound K vs H Q E → t_bound K E { nx := fun _ H' => Q .non H', rt := Q } (start N_bound vs) H := by
  intro vs H Q E hyp
  match vs, hyp with
  | [lv, wv, tv], hyp =>
    obtain ⟨l, ls, w, lt, tl, rfl, hl, g, rfl, w2, w6, rfl, ⟨tv, et, pt⟩, few, kg, kb⟩ := hyp
    have g1 := g.pos
    have g4 := g.le
    have lt_ := pt.length
    have sl := stretch_len (n := ls.length) g4
    refine ⟨_, rfl, l, ls, rfl, hl, g, fun H1 s1 => ?_⟩
    refine ⟨_, rfl, _, rfl, by omega, by omega, fun H2 s2 => ?_⟩
    have s02 := s1.trans s2
    refine ⟨_, rfl, lt, rfl, ⟨_, SqL.of (s02 _ _ et)⟩, fun D hD => ?_⟩
    refine lcm_list (S := DPairAt) (fun q : (Int × Int) × Int => some q) DPairAt.st (s02 _ _ et) (Paired.tl TripAt.st (TupLe.same s02) pt) hD ?_ (by omega) ?_
    · intro j v x H' hx hj r s skip put
      obtain ⟨a, rfl, ea⟩ := r
      refine ⟨a, _, rfl, SqT.of (s _ _ ea), rfl, _, _, rfl, _, _, rfl, _, _, rfl, rfl, rfl, lc_yes ⟨_, rfl, _, rfl, szle (by show 2 ≤ 100000; decide), fun t1 ht1 => ?_⟩⟩
      have s3 : Same H' (upd H' t1 (.tup [.int x.1.1, .int x.1.2])) := Rs.Same.new ht1
      have et1 : upd H' t1 (.tup [.int x.1.1, .int x.1.2]) t1 = some _ := upd_same
      generalize upd H' t1 (.tup [.int x.1.1, .int x.1.2]) = H3 at s3 et1 ⊢
      refine ⟨_, rfl, szle (by show 2 ≤ 100000; decide), fun t2 ht2 => ?_⟩
      have s4 : Same H3 (upd H3 t2 (.tup [.ref t1, .int x.2])) := Rs.Same.new ht2
      exact put _ _ _ (s3.trans s4) rfl ⟨t2, t1, rfl, upd_same, s4 _ _ et1⟩
    intro H3 L3 s3
    have fid : tl.filterMap (fun q => some q) = tl := by rw [fm_some]; exact List.map_id' tl
    rw [fid] at L3
    obtain ⟨dv, eD, pD⟩ := L3
    obtain ⟨ps, edv, pps⟩ := dpairs (K := K) pD
    have s03 := s02.trans s3
    refine ⟨D, ps, encC tl, rfl, SqL.of (by rw [eD, edv]), pps, fun d hd => ?_⟩
    have s03b := s03
    have d0b := hd
    by_cases nd : (tl.map (·.1)).Nodup
    rotate_left
    · have ndE : ¬ ((encC tl).map (·.1)).Nodup := fun z => nd (by
        rw [enc_keys] at z
        unfold List.Nodup at z ⊢
        rw [List.pairwise_map] at z
        exact List.Pairwise.imp (fun h e => h (by rw [e])) z)
      have lt2 := mergeT_lt (encC tl) [] (.inl ndE)
      have lenc : (encC tl).length = tl.length := by unfold encC; rw [List.length_map]
      rw [lenc] at lt2
      simp only [List.length_nil, Nat.zero_add] at lt2
      have s4 : Same H3 (upd H3 d (.dT (mergeT [] (encC tl)))) := Rs.Same.new hd
      have ed : upd H3 d (.dT (mergeT [] (encC tl))) d = some (.dT (mergeT [] (encC tl))) := upd_same
      generalize upd H3 d (.dT (mergeT [] (encC tl))) = H4 at s4 ed ⊢
      refine ⟨_, rfl, d, _, rfl, ed, _, rfl, lenL ((s03.trans s4) _ _ et) rfl ⟨rfl, _, rfl, ?_⟩⟩
      have ez : decide (V.int (((mergeT [] (encC tl)).length : Nat) : Int) = V.int ((tv.length : Nat) : Int)) = false := decide_eq_false fun z => by
        injection z with z
        omega
      rw [ez]
      exact kb (fun D => nd (D.1.nodup_iff.mpr (stretch_nd _))) _ (s03.trans s4)
    rw [encC_merge nd]
    have s4 : Same H3 (upd H3 d (.dT (encC tl))) := Rs.Same.new hd
    have ed : upd H3 d (.dT (encC tl)) d = some (.dT (encC tl)) := upd_same
    have d0 : H d = none := s03.free hd
    generalize upd H3 d (.dT (encC tl)) = H4 at s4 ed ⊢
    have s04 := s03.trans s4
    clear pps edv pD eD dv s3 hD s4 hd
    have lenc : (encC tl).length = tl.length := by unfold encC; rw [List.length_map]
    -- as many, the same stretches
    refine ⟨_, rfl, d, _, rfl, ed, _, rfl, lenL (s04 _ _ et) rfl ⟨rfl, _, rfl, ?_⟩⟩
    rw [lenc, lt_, decide_eq_true rfl]
    refine ⟨_, rfl, d, encC tl, tl.map (·.1), rfl, ed, enc_keys tl, fun zs ks p1 kp ku kz hp1 => ?_⟩
    have s5 : Same H4 (upd H4 p1 (.lst zs)) := Rs.Same.new hp1
    have ep1 : upd H4 p1 (.lst zs) p1 = some (.lst zs) := upd_same
    have ed5 := s5 _ _ ed
    generalize upd H4 p1 (.lst zs) = H5 at s5 ep1 ed5 ⊢
    refine ⟨_, rfl, lenL ((s04.trans s5) _ _ hl) rfl ⟨ls.length, by rw [List.length_map], g4, fun lx H6 hlx ⟨xv, ex, px⟩ s6 => ?_⟩⟩
    refine ⟨lx, xv, pairI H6, rfl, SqL.of ex, fun x hx => ?_, fun ys p2 hs hp hnp => ?_⟩
    · obtain ⟨q, hq, r⟩ := paired_mem px hx
      obtain ⟨t, rfl, et⟩ := id r
      refine ⟨t, rfl, ?_⟩
      rw [pairI_of r]
      exact et
    have kmap : ∀ {vs : List V} {rs : List (Int × Int)}, Paired (IIAt H6) vs rs → vs.map (pairI H6) = rs := fun {vs rs} q => by
      induction q with
      | nil => rfl
      | cons a b ih => rw [List.map_cons, ih, pairI_of a]
    have yp : (ys.map (pairI H6)).Perm (stretchL ls.length) := by
      have := hp.perm.map (pairI H6)
      rwa [kmap px] at this
    have ysrt : (ys.map (pairI H6)).Pairwise LeL := by
      rw [List.pairwise_map]
      exact hs
    have py : Paired (IIAt H6) ys (ys.map (pairI H6)) := by
      have all : ∀ y ∈ ys, IIAt H6 y (pairI H6 y) := fun y hy => by
        obtain ⟨q, hq, r⟩ := paired_mem px (hp.perm.mem_iff.mp hy)
        rw [pairI_of r]
        exact r
      clear hs hp kg kb yp ysrt
      induction ys with
      | nil => exact .nil
      | cons y ys ih => exact .cons (all y (List.mem_cons_self ..)) (ih fun z hz => all z (List.mem_cons_of_mem _ hz))
    generalize ys.map (pairI H6) = yk at yp ysrt py
    have s7 : Same H6 (upd H6 p2 (.lst ys)) := Rs.Same.new hnp
    have ep2 : upd H6 p2 (.lst ys) p2 = some (.lst ys) := upd_same
    generalize upd H6 p2 (.lst ys) = H7 at s7 ep2 ⊢
    have s57 := s6.trans s7
    have s47 := s5.trans s57
    have s07 := s04.trans s47
    have lks := kp.length_eq
    rw [List.length_map] at lks
    have lyk := yp.length_eq
    have okk : ∀ zk : List (Int × Int), zk.length ≤ 2000 → okD 3 (.list (zk.map iiD)) := fun zk hz => list_ok (n := 2) (by omega) fun q _ => ⟨by show 2 ≤ 100000; decide, fun d hd => by
      simp only [List.mem_cons, List.not_mem_nil, or_false] at hd
      rcases hd with rfl | rfl <;> exact trivial⟩
    refine ⟨.list (ks.map iiD), .list (yk.map iiD), .lst (SqL.of (s57 _ _ ep1)) (dpAll (R := fun H v (q : Int × Int) => IsTp H v [.int q.1, .int q.2]) (fun v q h => ii_dp h) (P2.mono (fun v q h => IsTp.mono (TupLe.same s47) h) kz)), .lst (SqL.of ep2) (dpAll (R := IIAt) (fun v q h => ii_dp h) (Paired.tl IIAt.st (TupLe.same s7) py)), (okk ks (by omega)).shaped (by decide), (okk yk (by omega)).shaped (by decide), ?_⟩
    rw [eqv_iiL]
    refine ⟨_, rfl, ?_⟩
    have ed7 := s47 _ _ ed
    by_cases pm : (tl.map (·.1)).Perm (stretchL ls.length)
    rotate_left
    · have ne : ¬ ks = yk := fun z => pm (kp.symm.trans (by rw [z]; exact yp))
      rw [decide_eq_false ne]
      exact kb (fun D => pm D.1) H7 s07
    have e : ks = yk := srtL_one ((kp.trans pm).trans yp.symm) ku ysrt
    rw [decide_eq_true e]
    have lpm := pm.length_eq
    rw [List.length_map] at lpm
    clear py yp ysrt kmap ep2 s7 hnp hs hp px ex hlx s6 kz ep1 hp1 ku s57 s5 ed5 lks okk s04 ed e
    -- stretch by stretch
    refine ⟨d, _, ed7, trivial, fun od => ?_⟩
    have s8 : Same H (upd H7 d (.frz od (.dT (encC tl)))) := Rs.Same.mut s07 d0
    have ed8 : upd H7 d (.frz od (.dT (encC tl))) d = some _ := upd_same
    generalize upd H7 d (.frz od (.dT (encC tl))) = H8 at s8 ed8 ⊢
    refine ⟨_, rfl, d, od, rfl, .inr ⟨encC tl, ed8, ?_⟩⟩
    refine for_it (walk_keysT (d := d) (o := od) (kvs := encC tl)) (fun i σ H' => ∃ (x4 x5 x6 : Option V), σ = [some (.ref l), some (.int (w : Int)), some (.ref lt), some (.ref d), x4, x5, x6] ∧ H' d = some (.frz od (.dT (encC tl))) ∧ Same H H' ∧ (∀ b e, (∃ j, j < i ∧ (tl.map (·.1))[j]? = some (b, e)) → ∃ s ps, BestCut (cOf tl) b e w s ps ∧ cOf tl b e ≤ s + (segL ls b e).sum))
      ⟨none, none, none, rfl, ed8, s8, fun b e ⟨j, z, _⟩ => by omega⟩ ?_ ?_ ?_
    · rintro i σ H' _ ⟨_, _, _, _, h, _⟩
      exact h
    · rintro i x σ _ H9 hi ⟨x4, x5, x6, rfl, ed9, s9, dn⟩ ⟨rfl, kk_, v_, q_, hk, rfl, eq9⟩
      have hit : i < tl.length := by omega
      have hkk : kk_ = kk (tl[i]).1.1 (tl[i]).1.2 ∧ v_ = V.int (tl[i]).2 := by
        unfold encC at hk
        rw [List.getElem?_map, List.getElem?_eq_getElem hit] at hk
        injection hk with hk
        injection hk with a b
        exact ⟨a.symm, b.symm⟩
      obtain ⟨rfl, rfl⟩ := hkk
      have hmem : (tl.map (·.1))[i]? = some (tl[i]).1 := by rw [List.getElem?_map, List.getElem?_eq_getElem hit]; rfl
      generalize hq : tl[i] = q at hk eq9 hmem
      obtain ⟨⟨b, e⟩, num⟩ := q
      dsimp only at hk eq9 hmem
      have hin : (b, e) ∈ tl.map (·.1) := List.mem_of_getElem? hmem
      have hst : (b, e) ∈ stretchL ls.length := pm.mem_iff.mp hin
      obtain ⟨m0, m2, mn⟩ := stretch_mem.mp hst
      dsimp only at m0 m2 mn
      have ev : valV (encC tl) (kk b e) = some (V.int (cOf tl b e)) := by rw [enc_val, cLook_in hin]; rfl
      have eq9 : H9 q_ = some (.tup [.int b, .int e]) := eq9
      refine ⟨q_, _, rfl, SqT.of eq9, rfl, _, _, rfl, _, _, rfl, rfl, ?_⟩
      refine ⟨_, rfl, _, rfl, _, rfl, szle (by show 2 ≤ 100000; decide), fun t1 ht1 => ?_⟩
      have s10 : Same H9 (upd H9 t1 (.tup [.int b, .int e])) := Rs.Same.new ht1
      have et1 : upd H9 t1 (.tup [.int b, .int e]) t1 = some (.tup ((kk b e).map kV)) := upd_same
      generalize upd H9 t1 (.tup [.int b, .int e]) = H10 at s10 et1 ⊢
      have ed10 := s10 _ _ ed9
      refine ⟨d, .int (cOf tl b e), rfl, .inr ⟨encC tl, kk b e, t1, .inr ⟨od, ed10⟩, rfl, et1, ev.symm⟩, ?_⟩
      refine ⟨_, rfl, _, rfl, _, rfl, _, rfl, d, tl, b, e, w, rfl, .inr ⟨od, ed10⟩, rfl, rfl, rfl, m0, m2, by omega, by omega, w2, w6, fun v H11 s ps' cv B s11 => ?_⟩
      obtain ⟨a, lp, rfl, ha, hlp⟩ := cv
      refine ixT ⟨a, rfl, ha⟩ (j := 0) rfl rfl ?_
      have eb : b = ((b.toNat : Nat) : Int) := by omega
      have ee : e = ((e.toNat : Nat) : Int) := by omega
      have s911 := s10.trans s11
      have s011 := s9.trans s911
      refine ⟨_, rfl, _, rfl, _, rfl, _, rfl, _, rfl, l, _, rfl, SqL.of (s011 _ _ hl), fun p hp => ⟨p, segL ls b e, rfl, SqL.of ?_, ?_⟩⟩
      · rw [upd_same]
        congr 2
        conv => lhs; rw [eb, ee]
        rw [cut_mid]
        unfold segL
        rw [List.map_take, List.map_drop]
      have s12 : Same H11 (upd H11 p (.lst (cutV (ls.map V.int) (some b) (some e)))) := Rs.Same.new hp
      generalize upd H11 p (.lst (cutV (ls.map V.int) (some b) (some e))) = H12 at s12 ⊢
      refine ⟨_, _, rfl, rfl, _, _, rfl, rfl, _, rfl, ?_⟩
      have s012 := s011.trans s12
      by_cases c : s + (segL ls b e).sum < cOf tl b e
      · rw [decide_eq_true c]
        refine kb (fun D => ?_) H12 s012
        have := D.2 b e hst ps' B.asc B.two B.le
        rw [← B.sum] at this
        omega
      · rw [decide_eq_false c]
        refine ⟨_, _, _, rfl, (s911.trans s12) _ _ ed9, s012, fun b' e' ⟨j, hj, hj2⟩ => ?_⟩
        by_cases z : j < i
        · exact dn b' e' ⟨j, z, hj2⟩
        · have : j = i := by omega
          subst this
          rw [hmem] at hj2
          injection hj2 with hj2
          injection hj2 with z1 z2
          subst z1 z2
          exact ⟨s, ps', B, by omega⟩
    · rintro σ H9 ⟨x4, x5, x6, rfl, ed9, s9, dn⟩
      refine ⟨ed9, ?_⟩
      have s10 : Same H (upd H9 d (.dT (encC tl))) := Rs.Same.mut s9 d0
      have ed10 : upd H9 d (.dT (encC tl)) d = some _ := upd_same
      generalize upd H9 d (.dT (encC tl)) = H10 at s10 ed10 ⊢
      have eln : (((ls.map V.int).length : Nat) : Int) = (ls.length : Int) := by rw [List.length_map]
      refine ⟨_, rfl, d, rfl, .inr ⟨_, .inl ed10⟩, _, rfl, lenL (s10 _ _ hl) rfl ⟨szle (by show 2 ≤ 100000; decide), fun t1 ht1 => ?_⟩⟩
      rw [eln]
      have s11 : Same H10 (upd H10 t1 (.tup [.int 0, .int (ls.length : Int)])) := Rs.Same.new ht1
      have et1 : upd H10 t1 (.tup [.int 0, .int (ls.length : Int)]) t1 = some (.tup ((kk 0 (ls.length : Int)).map kV)) := upd_same
      generalize upd H10 t1 (.tup [.int 0, .int (ls.length : Int)]) = H11 at s11 et1 ⊢
      refine ⟨_, DGet.t (k := kk 0 (ls.length : Int)) (s11 _ _ ed10) et1, ?_⟩
      rw [enc_getD]
      refine kg ⟨pm, fun b e hbe qs qa q2 qw => ?_⟩ H11 (s10.trans s11)
      obtain ⟨j, hj, ej⟩ := List.getElem_of_mem (pm.mem_iff.mpr hbe)
      rw [List.length_map] at hj
      obtain ⟨s, ps', B, le⟩ := dn b e ⟨j, by omega, by rw [List.getElem?_eq_getElem (by rw [List.length_map]; exact hj), ej]⟩
      have := B.min qs qa q2 qw
      omega
end Rs

namespace Rs
open PySem PySem.Spec PyProof.Rows L2
open LamX
abbrev N_law_bent : List Str := ["_law_box", "_law_many", "_law_told_here", "_law_at", "_law_begin", "_law_end", "_law_number", "_law_more", "_law_way", "_law_some", "_law_one", "_law_other", "_law_price"]
abbrev P_law_bent : List Str := ["_law_box", "_law_many", "_law_told_here"]
def sp_law_bent (K : PySem.W.Frag) : Sp := fun vs H Q E => match vs with
  | [bv, mv, tv] => ∃ (a l lt : Addr) (m : Int) (tl : Costs), bv = .ref a ∧ mv = .int m ∧ tv = .ref lt ∧ Box H a l ∧ lt ∉ [a, l] ∧ Lst TripAt H lt tl ∧ tl.length ≤ 500 ∧
    ∀ p H' tl', H p = none → Lst TripAt H' p tl' → tl'.length ≤ tl.length + 1 → Box H' a l → But [a, l] H H' → Q (.ref p) H'
  | _ => False
def t_law_bent (K : PySem.W.Frag) (E : XK) : TS := (tSeq (tIfS (tOr (tTest (tOp (xEqE K) (tVar 2) (tLst tNil))) (tTest (tOpC rEq (tCall (sp_law_take K) [] E (tCons (tVar 0) (tConsC (.int 6) tNil))) (.int 0)))) (tRet (tOp rCat (tVar 2) (tLst (tCons (tOp (rIxL K) (tLst (tCons (tTup (tConsC (.int 0) (tConsC (.int 1) (tConsC (.int 0) tNil)))) (tCons (tTup (tConsC (.int 0) (tCons (tOpC xAdd (tVar 1) (.int 1)) (tConsC (.int 0) tNil)))) (tCons (tTup (tConsC (.int (-1)) (tCons (tVar 1) (tConsC (.int 0) tNil)))) (tCons (tTup (tConsC (.int 0) (tCons (tVar 1) (tConsC (.int 0) tNil)))) tNil))))) (tCall (sp_law_take K) [] E (tCons (tVar 0) (tConsC (.int 4) tNil)))) tNil)))) tNext)
  (tSeq (tAsg (tCall (sp_law_take K) [] E (tCons (tVar 0) (tCons (tCB1 (xLen K) (tVar 2)) tNil))) (gName 3))
   (tSeq (tAsg (tOp (rIxL K) (tVar 2) (tVar 3)) (gTup K 3 (gCons (gName 4) (gCons (gName 5) (gCons (gName 6) gNil)))))
    (tSeq (tAsg (tOp (rIxL K) (tLst (tConsC (.int 1) (tConsC (.int 2) (tCons (tOpD xAdd (.int 1) (tCall (sp_law_take K) [] E (tCons (tVar 0) (tConsC (.int 9) tNil)))) (tCons (tOpC xPow (tC (.int 10)) (.int 18)) tNil))))) (tCall (sp_law_take K) [] E (tCons (tVar 0) (tConsC (.int 4) tNil)))) (gName 7))
     (tSeq (tAsg (tCall (sp_law_take K) [] E (tCons (tVar 0) (tConsC (.int 6) tNil))) (gName 8))
      (tSeq (tIfS (tTest (tOpC rEq (tVar 8) (.int 5))) (tRet (tLc (iList K (tVar 2)) (gTup K 3 (gCons (gName 10) (gCons (gName 11) (gCons (gName 12) gNil)))) tYes (tTup (tCons (tVar 10) (tCons (tVar 11) (tCons (tOpC xDiv (tVar 12) (.int 2)) tNil)))) [10, 11, 12])) tNext)
       (tSeq (tAsg (tLst (tCons (tLst (tCons (tTup (tCons (tVar 4) (tCons (tVar 5) (tCons (tOp xSub (tVar 6) (tVar 7)) tNil)))) tNil)) (tCons (tLst (tCons (tTup (tCons (tVar 4) (tCons (tVar 5) (tCons (tOp xAdd (tVar 6) (tVar 7)) tNil)))) tNil)) (tCons (tLst (tCons (tTup (tCons (tVar 4) (tCons (tVar 5) (tConsC (.int 0) tNil)))) tNil)) (tCons (tLst tNil) (tCons (tLst (tCons (tOp (rIxL K) (tVar 2) (tVar 3)) (tCons (tOp (rIxL K) (tVar 2) (tVar 3)) tNil))) tNil)))))) (gName 9))
        (tRet (tOp rCat (tOp rCat (tSl (rSlL K) (tVar 2) tNoPart (tPart (tVar 3))) (tOp (rIxL K) (tVar 9) (tVar 8))) (tSl (rSlL K) (tVar 2) (tPart (tOpC xAdd (tVar 3) (.int 1))) tNoPart))))))))))
theorem TripAt.of {H : Hp} {t : Addr} {b e n : Int} (h : H t = some (.tup [.int b, .int e, .int n])) : TripAt H (.ref t) ((b, e), n) := ⟨t, rfl, h⟩
theorem pure_law_bent {K : PySem.W.Frag} : ∀ vs H Q E, sp_law_bent K vs H Q E → t_law_bent K E { nx := fun _ H' => Q .non H', rt := Q } (start N_law_bent vs) H := by
  intro vs H Q E hyp
  match vs, hyp with
  | [bv, mv, tv0], hyp =>
    obtain ⟨a, l, lt, m, tl, rfl, rfl, rfl, B, nlt, ⟨tv, et, pt⟩, few, k⟩ := hyp
    have ltl := pt.length
    -- one of four behind
    have add : ∀ (H1 : Hp) (D : Ends), D.rt = Q → Box H1 a l → But [a, l] H H1 → (tRet (tOp rCat (tVar 2) (tLst (tCons (tOp (rIxL K) (tLst (tCons (tTup (tConsC (.int 0) (tConsC (.int 1) (tConsC (.int 0) tNil)))) (tCons (tTup (tConsC (.int 0) (tCons (tOpC xAdd (tVar 1) (.int 1)) (tConsC (.int 0) tNil)))) (tCons (tTup (tConsC (.int (-1)) (tCons (tVar 1) (tConsC (.int 0) tNil)))) (tCons (tTup (tConsC (.int 0) (tCons (tVar 1) (tConsC (.int 0) tNil)))) tNil))))) (tCall (sp_law_take K) [] E (tCons (tVar 0) (tConsC (.int 4) tNil)))) tNil)))) D (start N_law_bent [.ref a, .int m, .ref lt]) H1 := fun H1 D hD B1 k1 => by
      have et1 := k1 _ _ et nlt
      have pt1 := Paired.tl TripAt.st (B.tup k1) pt
      refine ⟨_, rfl, szle (by show 3 ≤ 100000; decide), fun t1 ht1 => ?_⟩
      generalize gX : upd _ t1 _ = H2
      have s2 := newS ht1 gX
      have et2 := newE gX
      clear gX
      refine ⟨_, rfl, _, _, rfl, rfl, szle (by show 3 ≤ 100000; decide), fun t3 ht3 => ?_⟩
      generalize gX : upd _ t3 _ = H3
      have s3 := newS ht3 gX
      have et3 := newE gX
      clear gX
      refine ⟨_, rfl, szle (by show 3 ≤ 100000; decide), fun t4 ht4 => ?_⟩
      generalize gX : upd _ t4 _ = H4
      have s4 := newS ht4 gX
      have et4 := newE gX
      clear gX
      refine ⟨_, rfl, szle (by show 3 ≤ 100000; decide), fun t5 ht5 => ?_⟩
      generalize gX : upd _ t5 _ = H5
      have s5 := newS ht5 gX
      have et5 := newE gX
      clear gX
      refine ⟨szle (by show 4 ≤ 100000; decide), fun c hc => ?_⟩
      have s15 := ((s2.trans s3).trans s4).trans s5
      have B5 := B1.same s15
      have nc := B5.fresh hc
      generalize gX : upd _ c _ = H6
      have s6 := newS hc gX
      have ec := newE gX
      clear gX
      have B6 := B5.same s6
      refine ⟨_, rfl, a, l, _, rfl, rfl, by decide, by decide, B6, fun r H7 r0 r1 B7 k7 => ?_⟩
      have t67 := B6.tup k7
      obtain ⟨t, q, hq, et7⟩ : ∃ (t : Addr) (q : (Int × Int) × Int), ([V.ref t1, V.ref t3, V.ref t4, V.ref t5] : List V)[r.toNat]? = some (.ref t) ∧ TripAt H7 (.ref t) q := by
        obtain e | e | e | e : r.toNat = 0 ∨ r.toNat = 1 ∨ r.toNat = 2 ∨ r.toNat = 3 := by omega
        · exact ⟨t1, _, by rw [e]; rfl, TripAt.of (t67 _ _ ((((s3.trans s4).trans s5).trans s6) _ _ et2))⟩
        · exact ⟨t3, _, by rw [e]; rfl, TripAt.of (t67 _ _ (((s4.trans s5).trans s6) _ _ et3))⟩
        · exact ⟨t4, _, by rw [e]; rfl, TripAt.of (t67 _ _ ((s5.trans s6) _ _ et4))⟩
        · exact ⟨t5, _, by rw [e]; rfl, TripAt.of (t67 _ _ (s6 _ _ et5))⟩
      refine ixL (k7 _ _ ec nc) (j := r.toNat) (by omega) hq ⟨szle (by show 1 ≤ 100000; decide), fun d hd => ?_⟩
      have k17 := (But.same (S := [a, l]) (s15.trans s6)).trans k7
      have et7' := k17 _ _ et1 nlt
      have nd : lt ≠ d := ne_of_none et7' hd
      generalize gX : upd _ d _ = H8
      have s8 := newS hd gX
      have ed := newE gX
      clear gX
      have pt8 := Paired.tl TripAt.st ((B1.tup k17).trans (TupLe.same s8)) pt1
      refine ⟨lt, d, _, _, rfl, rfl, s8 _ _ et7', ed, szle (by show tv.length + 1 ≤ 100000; omega), fun p hp => ?_⟩
      have k08 := (k1.trans k17).trans (But.same s8)
      have p0 : H p = none := none_of_but k08 hp (B7.same s8 |>.fresh hp)
      have B8 := B7.same s8
      generalize gX : upd _ p _ = H9
      have s9 := newS hp gX
      have ep := newE gX
      clear gX
      rw [hD]
      exact k p H9 (tl ++ [q]) p0 ⟨_, ep, P2.app (Paired.tl TripAt.st (TupLe.same s9) pt8) (P2.one (TripAt.st _ _ _ _ (TupLe.same (s8.trans s9)) et7))⟩ (by rw [List.length_append, List.length_singleton]; exact Nat.le_refl _) (B8.same s9) (k08.trans (But.same s9))
    refine ⟨_, rfl, sz0, fun q hq => eqE et hq (b := tv.isEmpty) rfl ⟨_, rfl, ?_⟩⟩
    generalize gX : upd _ q _ = H1
    have s1 := newS hq gX
    have eq := newE gX
    clear gX
    have B1 := B.same s1
    cases hte : tv.isEmpty with
    | true => exact add H1 _ rfl B1 (But.same s1)
    | false =>
      have tpos : 0 < tv.length := by
        cases tv with
        | nil => cases hte
        | cons x r => simp
      refine ⟨_, rfl, a, l, _, rfl, rfl, by decide, by decide, B1, fun r H2 r0 r1 B2 k2 => ⟨rfl, _, rfl, ?_⟩⟩
      have k02 := (But.same (S := [a, l]) s1).trans k2
      by_cases c : V.int r = V.int 0
      · rw [decide_eq_true c]
        exact add H2 _ rfl B2 k02
      rw [decide_eq_false c]
      refine ⟨_, rfl, _, rfl, lenL (k02 _ _ et nlt) rfl ⟨a, l, _, rfl, rfl, by omega, by omega, B2, fun r2 H3 r0 r1 B3 k3 => ?_⟩⟩
      obtain ⟨j, rfl⟩ : ∃ j : Nat, r2 = (j : Int) := ⟨r2.toNat, by omega⟩
      have hj : j < tv.length := by omega
      have k03 := k02.trans k3
      have et3 := k03 _ _ et nlt
      have pt3 := Paired.tl TripAt.st (B.tup k03) pt
      obtain ⟨⟨⟨b, e⟩, num⟩, hq3, ta, eta, hta⟩ := P2.get pt3 (List.getElem?_eq_getElem hj)
      dsimp only at hta
      refine ⟨_, rfl, _, rfl, ixL et3 (j := j) rfl (List.getElem?_eq_getElem hj) ?_⟩
      rw [eta]
      refine ⟨ta, _, rfl, SqT.of hta, rfl, _, _, rfl, _, _, rfl, _, _, rfl, rfl, ?_⟩
      refine ⟨_, rfl, a, l, _, rfl, rfl, by decide, by decide, B3, fun r3 H4 _ _ B4 k4 => ⟨_, _, rfl, rfl, ?_⟩⟩
      refine ⟨_, _, rfl, rfl, ⟨by decide, by decide, by decide⟩, szle (by show 4 ≤ 100000; decide), fun c hc => ?_⟩
      have nc := B4.fresh hc
      generalize gX : upd _ c _ = H5
      have s5 := newS hc gX
      have ec := newE gX
      clear gX
      refine ⟨_, rfl, a, l, _, rfl, rfl, by decide, by decide, B4.same s5, fun r4 H6 g0 g1 B6 k6 => ?_⟩
      obtain ⟨n, hn⟩ : ∃ n : Int, ([V.int 1, V.int 2, V.int (1 + r3), V.int ((10 : Int) ^ (18 : Int).toNat)] : List V)[r4.toNat]? = some (.int n) := by
        obtain e | e | e | e : r4.toNat = 0 ∨ r4.toNat = 1 ∨ r4.toNat = 2 ∨ r4.toNat = 3 := by omega
        · rw [e]; exact ⟨_, rfl⟩
        · rw [e]; exact ⟨_, rfl⟩
        · rw [e]; exact ⟨_, rfl⟩
        · rw [e]; exact ⟨_, rfl⟩
      refine ixL (k6 _ _ ec nc) (j := r4.toNat) (by omega) hn ?_
      refine ⟨_, rfl, a, l, _, rfl, rfl, by decide, by decide, B6, fun w H7 w0 w1 B7 k7 => ?_⟩
      have k37 := ((k4.trans (But.same (S := [a, l]) s5)).trans k6).trans k7
      have k07 := k03.trans k37
      have et7 := k07 _ _ et nlt
      have pt7 := Paired.tl TripAt.st (B.tup k07) pt
      have hta7 := B3.tup k37 _ _ hta
      refine ⟨_, rfl, rfl, _, rfl, ?_⟩
      clear k4 k6 k7 k2 k3 hn ec
      by_cases c5 : V.int w = V.int 5
      · rw [decide_eq_true c5]
        refine ⟨_, rfl, lt, rfl, ⟨_, SqL.of et7⟩, fun D hD => ?_⟩
        have D0 : H D = none := none_of_but k07 hD (B7.fresh hD)
        refine lcm_list (S := TripAt) (fun q : (Int × Int) × Int => some (q.1, q.2 / 2)) TripAt.st et7 pt7 hD ?_ (by omega) ?_
        · intro j v x H' hx hj r s skip put
          obtain ⟨ta, rfl, ea⟩ := r
          refine ⟨ta, _, rfl, SqT.of (s _ _ ea), rfl, _, _, rfl, _, _, rfl, _, _, rfl, rfl, rfl, lc_yes ⟨_, rfl, _, rfl, _, rfl, _, _, rfl, rfl, div_ok (by decide) (by decide), szle (by show 3 ≤ 100000; decide), fun t ht => ?_⟩⟩
          exact put _ _ _ (Rs.Same.new ht) rfl ⟨t, rfl, upd_same⟩
        · intro H8 L s8
          rw [fm_some] at L
          exact k D H8 _ D0 L (by rw [List.length_map]; omega) (B7.same s8) (k07.trans (But.same s8))
      rw [decide_eq_false c5]
      -- the five
      refine ⟨_, rfl, _, rfl, _, rfl, _, rfl, _, _, rfl, rfl, szle (by show 3 ≤ 100000; decide), fun u1 hu1 => ?_⟩
      generalize gX : upd _ u1 _ = X1
      have z1 := newS hu1 gX
      have eu1 := newE gX
      clear gX
      refine ⟨szle (by show 1 ≤ 100000; decide), fun v1 hv1 => ?_⟩
      generalize gX : upd _ v1 _ = X2
      have z2 := newS hv1 gX
      have ev1 := newE gX
      clear gX
      refine ⟨_, rfl, _, rfl, _, rfl, _, rfl, _, _, rfl, rfl, szle (by show 3 ≤ 100000; decide), fun u2 hu2 => ?_⟩
      generalize gX : upd _ u2 _ = X3
      have z3 := newS hu2 gX
      have eu2 := newE gX
      clear gX
      refine ⟨szle (by show 1 ≤ 100000; decide), fun v2 hv2 => ?_⟩
      generalize gX : upd _ v2 _ = X4
      have z4 := newS hv2 gX
      have ev2 := newE gX
      clear gX
      refine ⟨_, rfl, _, rfl, szle (by show 3 ≤ 100000; decide), fun u3 hu3 => ?_⟩
      generalize gX : upd _ u3 _ = X5
      have z5 := newS hu3 gX
      have eu3 := newE gX
      clear gX
      refine ⟨szle (by show 1 ≤ 100000; decide), fun v3 hv3 => ?_⟩
      generalize gX : upd _ v3 _ = X6
      have z6 := newS hv3 gX
      have ev3 := newE gX
      clear gX
      refine ⟨sz0, fun v4 hv4 => ?_⟩
      generalize gX : upd _ v4 _ = X7
      have z7 := newS hv4 gX
      have ev4 := newE gX
      clear gX
      have z17 := (((((z1.trans z2).trans z3).trans z4).trans z5).trans z6).trans z7
      have etX := z17 _ _ et7
      refine ⟨_, rfl, _, rfl, ixL etX (j := j) rfl (List.getElem?_eq_getElem hj) ?_⟩
      rw [eta]
      refine ⟨_, rfl, _, rfl, ixL etX (j := j) rfl (List.getElem?_eq_getElem hj) ?_⟩
      rw [eta]
      refine ⟨szle (by show 2 ≤ 100000; decide), fun v5 hv5 => ?_⟩
      generalize gX : upd _ v5 _ = X8
      have z8 := newS hv5 gX
      have ev5 := newE gX
      clear gX
      refine ⟨szle (by show 5 ≤ 100000; decide), fun d hd => ?_⟩
      generalize gX : upd _ d _ = X9
      have z9 := newS hd gX
      have ed := newE gX
      clear gX
      have z19 := (z17.trans z8).trans z9
      obtain ⟨f, ws, qs, hf, ef, pq, few2⟩ : ∃ (f : Addr) (ws : List V) (qs : Costs), ([V.ref v1, V.ref v2, V.ref v3, V.ref v4, V.ref v5] : List V)[w.toNat]? = some (.ref f) ∧ X9 f = some (.lst ws) ∧ Paired (TripAt X9) ws qs ∧ qs.length ≤ 2 := by
        have w5 : w ≠ 5 := fun z => c5 (by rw [z])
        have z29 := (((((((z2.trans z3).trans z4).trans z5).trans z6).trans z7).trans z8).trans z9)
        obtain e | e | e | e | e : w.toNat = 0 ∨ w.toNat = 1 ∨ w.toNat = 2 ∨ w.toNat = 3 ∨ w.toNat = 4 := by omega
        · exact ⟨v1, _, [_], by rw [e]; rfl, (((((((z3.trans z4).trans z5).trans z6).trans z7).trans z8).trans z9)) _ _ ev1, .cons (TripAt.of (z29 _ _ eu1)) .nil, by simp⟩
        · exact ⟨v2, _, [_], by rw [e]; rfl, (((((z5.trans z6).trans z7).trans z8).trans z9)) _ _ ev2, .cons (TripAt.of ((((((z4.trans z5).trans z6).trans z7).trans z8).trans z9) _ _ eu2)) .nil, by simp⟩
        · exact ⟨v3, _, [_], by rw [e]; rfl, (((z7.trans z8).trans z9)) _ _ ev3, .cons (TripAt.of ((((z6.trans z7).trans z8).trans z9) _ _ eu3)) .nil, by simp⟩
        · exact ⟨v4, _, [], by rw [e]; rfl, (z8.trans z9) _ _ ev4, .nil, by simp⟩
        · exact ⟨v5, _, [_, _], by rw [e]; rfl, z9 _ _ ev5, .cons (TripAt.of (z19 _ _ hta7)) (.cons (TripAt.of (z19 _ _ hta7)) .nil), by simp⟩
      clear ev1 ev2 ev3 ev4 ev5 eu1 eu2 eu3 z1 z2 z3 z4 z5 z6 z7 z8 z9 z17
      have et9 := z19 _ _ et7
      have pt9 := Paired.tl TripAt.st (TupLe.same z19) pt7
      have B9 := B7.same z19
      have k09 := k07.trans (But.same z19)
      have lws := pq.length
      -- put together
      refine ⟨_, rfl, _, rfl, _, rfl, lt, tv, rfl, SqL.of et9, fun p1 hp1 => ?_⟩
      rw [cut_to (by omega)]
      have y1 : Same X9 (upd X9 p1 (.lst (tv.take j))) := Rs.Same.new hp1
      have ep1 : upd X9 p1 (.lst (tv.take j)) p1 = some _ := upd_same
      generalize upd X9 p1 (.lst (tv.take j)) = Y1 at y1 ep1 ⊢
      refine ⟨_, rfl, _, rfl, ixL (y1 _ _ ed) (j := w.toNat) (by omega) hf ?_⟩
      refine ⟨p1, f, _, _, rfl, rfl, ep1, y1 _ _ ef, szle (by rw [List.length_take]; omega), fun p2 hp2 => ?_⟩
      generalize gX : upd _ p2 _ = Y2
      have y2 := newS hp2 gX
      have ep2 := newE gX
      clear gX
      refine ⟨_, rfl, _, rfl, _, _, rfl, rfl, _, rfl, lt, tv, rfl, SqL.of ((y1.trans y2) _ _ et9), fun p3 hp3 => ?_⟩
      have ecut : cutV tv (some (((j + 1 : Nat) : Int))) none = tv.drop (j + 1) := cut_from (by omega)
      have ecut2 : cutV tv (some ((j : Int) + 1)) none = tv.drop (j + 1) := by rw [← ecut]; rfl
      dsimp only
      rw [ecut2]
      generalize gX : upd _ p3 _ = Y3
      have y3 := newS hp3 gX
      have ep3 := newE gX
      clear gX
      refine ⟨p2, p3, _, _, rfl, rfl, y3 _ _ ep2, ep3, szle (by simp only [List.length_append, List.length_take, List.length_drop]; omega), fun p hp => ?_⟩
      have yy := (y1.trans y2).trans y3
      have k0Y := k09.trans (But.same yy)
      have p0 : H p = none := none_of_but k0Y hp ((B9.same yy).fresh hp)
      have BY := B9.same yy
      generalize gX : upd _ p _ = Y4
      have y4 := newS hp gX
      have ep := newE gX
      clear gX
      have t94 := TupLe.same (yy.trans y4)
      refine k p Y4 (tl.take j ++ qs ++ tl.drop (j + 1)) p0 ⟨_, ep, P2.app (P2.app (P2.take j (Paired.tl TripAt.st t94 pt9)) (Paired.tl TripAt.st t94 pq)) (P2.drop (j + 1) (Paired.tl TripAt.st t94 pt9))⟩ ?_ (BY.same y4) (k0Y.trans (But.same y4))
      simp only [List.length_append, List.length_take, List.length_drop]
      omega
end Rs

namespace Rs
open PySem PySem.Spec PyProof.Rows L2
open LamX
abbrev N_law_side : List Str := ["_law_box", "_law_runs", "_law_ways", "_law_left", "_law_many", "_law_at", "_law_group"]
abbrev P_law_side : List Str := ["_law_box", "_law_runs", "_law_ways"]
def sp_law_side (K : PySem.W.Frag) : Sp := fun vs H Q E => match vs with
  | [b, rv, wv] => ∃ (a l lr : Addr) (ids : List Int) (w : Nat), b = .ref a ∧ rv = .ref lr ∧ H lr = some (.lst (ids.map V.int)) ∧ wv = .int (w : Int) ∧ 2 ≤ w ∧ w ≤ 6 ∧ 1 ≤ ids.length ∧ ids.length ≤ 40 ∧ Box H a l ∧
    ∀ v (pl : Pl) H', PlR H' v pl → pl.fits w = true → pl.runs = ids → Box H' a l → But [a, l] H H' → Q v H'
  | _ => False
def t_law_side (K : PySem.W.Frag) (E : XK) : TS := (tSeq (tAsg (tCB1 (xList K) (tVar 1)) (gName 3))
  (tSeq (tWhile (tTest (tOpC xGt (tCB1 (xLen K) (tVar 3)) (.int 1))) 
     (tSeq (tAsg (tCB xMin2 (tCons (tCB1 (xLen K) (tVar 3)) (tCons (tOpD xAdd (.int 2) (tCall (sp_law_take K) [] E (tCons (tVar 0) (tCons (tOpC xSub (tVar 2) (.int 1)) tNil)))) tNil))) (gName 4))
     (tSeq (tAsg (tCall (sp_law_take K) [] E (tCons (tVar 0) (tCons (tOpC xAdd (tOp xSub (tCB1 (xLen K) (tVar 3)) (tVar 4)) (.int 1)) tNil))) (gName 5))
      (tSeq (tAsg (tCB1 (xTuple K) (tSl (rSlL K) (tVar 3) (tPart (tVar 5)) (tPart (tOp xAdd (tVar 5) (tVar 4))))) (gName 6))
       (tAsg (tOp rCat (tOp rCat (tSl (rSlL K) (tVar 3) tNoPart (tPart (tVar 5))) (tLst (tCons (tVar 6) tNil))) (tSl (rSlL K) (tVar 3) (tPart (tOp xAdd (tVar 5) (tVar 4))) tNoPart)) (gName 3))))))
   (tRet (tOpC (rIxL K) (tVar 3) (.int 0)))))
theorem pure_law_side {K : PySem.W.Frag} : ∀ vs H Q E, sp_law_side K vs H Q E → t_law_side K E { nx := fun _ H' => Q .non H', rt := Q } (start N_law_side vs) H := by
  intro vs H Q E hyp
  match vs, hyp with
  | [b, rv, wv], hyp =>
    obtain ⟨a, l, lr, ids, w, rfl, rfl, hlr, rfl, w2, w6, i1, i2, B, k⟩ := hyp
    refine ⟨_, rfl, lr, _, rfl, .inl (SqL.of hlr), fun f hf => ?_⟩
    refine ⟨fun m σ H' => ∃ (f : Addr) (vs : List V) (ps : List Pl) (x4 x5 x6 : Option V), m = ps.length ∧ σ = [some (.ref a), some (.ref lr), some (.int (w : Int)), some (.ref f), x4, x5, x6] ∧ f ∉ [a, l] ∧ H' f = some (.lst vs) ∧ Paired (PlR H') vs ps ∧ 1 ≤ ps.length ∧ ps.length ≤ 40 ∧ Pl.fitsL w ps = true ∧ Pl.runsL ps = ids ∧ Box H' a l ∧ But [a, l] H H',
      ⟨_, f, _, ids.map Pl.leaf, none, none, none, rfl, rfl, B.fresh hf, upd_same, leaf_paired ids, by simpa using i1, by simpa using i2, leaves_fits ids, leaf_runs ids, B.same (Rs.Same.new hf), But.same (Rs.Same.new hf)⟩, ?_⟩
    rintro m σ H1 ⟨f, vs, ps, x4, x5, x6, rfl, rfl, nf, ef, pp, p1, p40, fit, rn, B1, k1⟩
    have lp := pp.length
    refine ⟨_, rfl, lenL ef rfl ⟨_, _, rfl, rfl, _, rfl, ?_⟩⟩
    by_cases hgt : 1 < ps.length
    · rw [decide_eq_true (show (1 : Int) < ((vs.length : Nat) : Int) by omega)]
      refine ⟨fun σ H' => ∃ (f : Addr) (vs : List V) (ps' : List Pl) (x4 x5 x6 : Option V), ps'.length < ps.length ∧ σ = [some (.ref a), some (.ref lr), some (.int (w : Int)), some (.ref f), x4, x5, x6] ∧ f ∉ [a, l] ∧ H' f = some (.lst vs) ∧ Paired (PlR H') vs ps' ∧ 1 ≤ ps'.length ∧ ps'.length ≤ 40 ∧ Pl.fitsL w ps' = true ∧ Pl.runsL ps' = ids ∧ Box H' a l ∧ But [a, l] H H', ?_, ?_⟩
      · rintro σ H' ⟨f', vs', ps', x4, x5, x6, q1, q2⟩
        exact ⟨_, q1, f', vs', ps', x4, x5, x6, rfl, q2⟩
      refine ⟨_, rfl, lenL ef rfl ⟨_, rfl, _, rfl, _, _, rfl, rfl, a, l, _, rfl, rfl, by omega, by omega, B1, fun r H2 r0 r1 B2 k2 => ⟨_, _, rfl, rfl, _, _, rfl, ?_⟩⟩⟩
      obtain ⟨mn, emn, m2, mw, mle⟩ : ∃ mn : Nat, (if 2 + r < ((vs.length : Nat) : Int) then 2 + r else ((vs.length : Nat) : Int)) = (mn : Int) ∧ 2 ≤ mn ∧ mn ≤ w ∧ mn ≤ ps.length := by
        split
        · exact ⟨(2 + r).toNat, by omega, by omega, by omega, by omega⟩
        · exact ⟨ps.length, by omega, by omega, by omega, by omega⟩
      rw [emn]
      have ef2 := k2 _ _ ef nf
      have pp2 := Paired.tl PlR.st (B1.tup k2) pp
      refine ⟨_, rfl, _, rfl, lenL ef2 rfl ⟨_, rfl, _, _, rfl, rfl, _, _, rfl, rfl, a, l, _, rfl, rfl, by omega, by omega, B2, fun g H3 g0 g1 B3 k3 => ?_⟩⟩
      obtain ⟨j, rfl⟩ : ∃ j : Nat, g = (j : Int) := ⟨g.toNat, by omega⟩
      have hjm : j + mn ≤ ps.length := by omega
      have ef3 := k3 _ _ ef2 nf
      have pp3 := Paired.tl PlR.st (B2.tup k3) pp2
      have k03 := (k1.trans k2).trans k3
      have ejm : (j : Int) + (mn : Int) = ((j + mn : Nat) : Int) := by omega
      -- the group
      refine ⟨_, rfl, _, rfl, _, rfl, _, rfl, _, rfl, _, _, rfl, rfl, _, rfl, f, vs, rfl, SqL.of ef3, fun q hq => ?_⟩
      dsimp only
      rw [ejm, cut_mid, show j + mn - j = mn by omega]
      have s4 : Same H3 (upd H3 q (.lst ((vs.drop j).take mn))) := Rs.Same.new hq
      have eq : upd H3 q (.lst ((vs.drop j).take mn)) q = some _ := upd_same
      generalize upd H3 q (.lst ((vs.drop j).take mn)) = H4 at s4 eq ⊢
      refine ⟨q, _, rfl, .inl ⟨SqL.of eq, fun t ht => ?_⟩⟩
      have s5 : Same H4 (upd H4 t (.tup ((vs.drop j).take mn))) := Rs.Same.new ht
      have et : upd H4 t (.tup ((vs.drop j).take mn)) t = some _ := upd_same
      generalize upd H4 t (.tup ((vs.drop j).take mn)) = H5 at s5 et ⊢
      have s35 := s4.trans s5
      have ef5 := s35 _ _ ef3
      -- ahead of it
      refine ⟨_, rfl, _, rfl, _, rfl, f, vs, rfl, SqL.of ef5, fun q1 hq1 => ?_⟩
      rw [cut_to (by omega)]
      have s6 : Same H5 (upd H5 q1 (.lst (vs.take j))) := Rs.Same.new hq1
      have eq1 : upd H5 q1 (.lst (vs.take j)) q1 = some _ := upd_same
      generalize upd H5 q1 (.lst (vs.take j)) = H6 at s6 eq1 ⊢
      refine ⟨_, rfl, szle (by show 1 ≤ 100000; decide), fun q2 hq2 => ?_⟩
      have s7 : Same H6 (upd H6 q2 (.lst [.ref t])) := Rs.Same.new hq2
      have eq2 : upd H6 q2 (.lst [.ref t]) q2 = some _ := upd_same
      generalize upd H6 q2 (.lst [.ref t]) = H7 at s7 eq2 ⊢
      refine ⟨q1, q2, _, _, rfl, rfl, s7 _ _ eq1, eq2, szle (by rw [List.length_take]; show _ + 1 ≤ 100000; omega), fun q3 hq3 => ?_⟩
      have s8 : Same H7 (upd H7 q3 (.lst (vs.take j ++ [.ref t]))) := Rs.Same.new hq3
      have eq3 : upd H7 q3 (.lst (vs.take j ++ [.ref t])) q3 = some _ := upd_same
      generalize upd H7 q3 (.lst (vs.take j ++ [.ref t])) = H8 at s8 eq3 ⊢
      have s58 := (s6.trans s7).trans s8
      -- behind it
      refine ⟨_, rfl, _, rfl, _, rfl, _, _, rfl, rfl, _, rfl, f, vs, rfl, SqL.of (s58 _ _ ef5), fun q4 hq4 => ?_⟩
      dsimp only
      rw [ejm, cut_from (by omega)]
      have s9 : Same H8 (upd H8 q4 (.lst (vs.drop (j + mn)))) := Rs.Same.new hq4
      have eq4 : upd H8 q4 (.lst (vs.drop (j + mn))) q4 = some _ := upd_same
      generalize upd H8 q4 (.lst (vs.drop (j + mn))) = H9 at s9 eq4 ⊢
      refine ⟨q3, q4, _, _, rfl, rfl, s9 _ _ eq3, eq4, szle (by rw [List.length_append, List.length_take, List.length_drop]; show _ + 1 + _ ≤ 100000; omega), fun q5 hq5 => ?_⟩
      have s10 : ∀ u, Same H9 (upd H9 q5 u) := fun u => Rs.Same.new hq5
      have s59 := (s58.trans s9).trans (s10 (.lst (vs.take j ++ [V.ref t] ++ vs.drop (j + mn))))
      have s39 := s35.trans s59
      have t3 := TupLe.same s39
      have psplit : ps = ps.take j ++ ((ps.drop j).take mn ++ ps.drop (j + mn)) := by
        conv => lhs; rw [← List.take_append_drop j ps, ← List.take_append_drop mn (ps.drop j), List.drop_drop]
      have fits3 : Pl.fitsL w (ps.take j) = true ∧ Pl.fitsL w ((ps.drop j).take mn) = true ∧ Pl.fitsL w (ps.drop (j + mn)) = true := by
        rw [psplit, fitsL_app, fitsL_app] at fit
        simp only [Bool.and_eq_true] at fit
        exact ⟨fit.1, fit.2.1, fit.2.2⟩
      have gl : ((ps.drop j).take mn).length = mn := by rw [List.length_take, List.length_drop]; omega
      have nodefit : (Pl.node ((ps.drop j).take mn)).fits w = true := by
        rw [Pl.fits, gl, fits3.2.1, decide_eq_true m2, decide_eq_true mw]
        rfl
      have len : (ps.take j ++ [Pl.node ((ps.drop j).take mn)] ++ ps.drop (j + mn)).length = ps.length - mn + 1 := by
        rw [List.length_append, List.length_append, List.length_take, List.length_drop, List.length_singleton]
        omega
      have B9 := B3.same s39
      refine ⟨q5, _, ps.take j ++ [Pl.node ((ps.drop j).take mn)] ++ ps.drop (j + mn), _, _, _, by omega, rfl, (B3.same ((s35.trans s58).trans s9)).fresh hq5, upd_same, P2.app (P2.app (Paired.tl PlR.st t3 (P2.take j pp3)) (P2.one (PlR.node (s59 _ _ et) (Paired.tl PlR.st t3 (P2.take mn (P2.drop j pp3)))))) (Paired.tl PlR.st t3 (P2.drop (j + mn) pp3)), by omega, by omega, ?_, ?_, B9, k03.trans (But.same s39)⟩
      · rw [fitsL_app, fitsL_app, fits3.1, fits3.2.2, Pl.fitsL, nodefit]
        rfl
      · rw [runsL_app, runsL_app, ← rn]
        conv => rhs; rw [psplit, runsL_app, runsL_app]
        rw [Pl.runsL, Pl.runsL, Pl.runs, List.append_nil, List.append_assoc]
    · rw [decide_eq_false (show ¬ (1 : Int) < ((vs.length : Nat) : Int) by omega)]
      match ps, pp, p1, hgt, fit, rn with
      | [p], .cons (a := v) hp .nil, _, _, fit, rn =>
        refine ⟨_, rfl, ixL ef (j := 0) rfl rfl ?_⟩
        rw [Pl.fitsL, Pl.fitsL, Bool.and_true] at fit
        exact k v p H1 hp fit (by simpa [Pl.runsL] using rn) B1 k1
      | p :: q :: r, _, _, hgt, _, _ => exact absurd (by simp) hgt
end Rs

namespace Rs
open PySem PySem.Spec PyProof.Rows L2
open LamX
def Lms_k10 : Lams := [(("law", none), (("law" ++ ".<locals>.") ++ "<lambda>" : Str))]
abbrev N_law : List Str := ["_law_script", "_law_box", "_law_turn", "_law_lengths_here", "_law_ways", "_law_many", "_law_good", "_law_places", "_law_one", "_law_again", "_law_left", "_law_told_here", "_law_change", "_law_handed", "_law_due_here", "_law_found", "_law_plan_here", "_law_other", "_law_row"]
abbrev P_law : List Str := ["_law_script"]
def placesL (n i : Nat) : List (Int × Int) := (List.range i).flatMap fun o => (List.range (n + 1 - (o + 2))).map fun (j : Nat) => ((o : Int), (o : Int) + 2 + (j : Int))
theorem placesL_ok {n : Nat} (h : n ≤ 12) : (placesL n n).Perm (stretchL n) ∧ (placesL n n).Pairwise LeL := by
  have p1 : ∀ n : Nat, n < 13 → (placesL n n).isPerm (stretchL n) = true := by decide +kernel
  have p2 : ∀ n : Nat, n < 13 → (placesL n n).Pairwise LeL := by unfold LeL; decide +kernel
  exact ⟨List.isPerm_iff.mp (p1 n (by omega)), p2 n (by omega)⟩
theorem placesL_few {n i : Nat} (h : n ≤ 12) (hi : i ≤ n) : (placesL n i).length ≤ 200 := by
  have : ∀ n : Nat, n < 13 → ∀ i : Nat, i < 13 → (placesL n i).length ≤ 200 := by decide +kernel
  exact this n (by omega) i (by omega)
theorem placesL_succ (n i : Nat) : placesL n (i + 1) = placesL n i ++ (List.range (n + 1 - (i + 2))).map fun (j : Nat) => ((i : Int), (i : Int) + 2 + (j : Int)) := by
  unfold placesL
  rw [List.range_succ, List.flatMap_append, List.flatMap_singleton]
def tripD (q : (Int × Int) × Int) : PyData := .tuple [.int q.1.1, .int q.1.2, .int q.2]
theorem trip_dp {K : PySem.W.Frag} {H : Hp} {v : V} {q : (Int × Int) × Int} (h : TripAt H v q) : Dp K H v (tripD q) := by
  obtain ⟨a, rfl, e⟩ := h
  exact .tup (SqT.of e) (.cons (.int _) (.cons (.int _) (.cons (.int _) .nil)))
theorem trip_ok (tl : Costs) (h : tl.length ≤ 1000) : okD 3 (.list (tl.map tripD)) := list_ok (n := 2) (by omega) fun q _ => ⟨by show 3 ≤ 100000; decide, fun d hd => by
  simp only [List.mem_cons, List.not_mem_nil, or_false] at hd
  rcases hd with rfl | rfl | rfl <;> exact trivial⟩
def sp_law (K : PySem.W.Frag) : Sp := fun vs H Q E => match vs with
  | [s] => ∃ (p : Addr) (ns : List Int), s = .ref p ∧ SqL K H p (ns.map V.int) ∧ ns.length ≤ 63 ∧ Tabs (tabs Lms_k10 K) H ∧ ∀ H', Q (.bl true) H'
  | _ => False
def t_law (K : PySem.W.Frag) (E : XK) : TS := (tSeq (tAsg (tCall (sp_law_begun K) [] E (tCons (tVar 0) tNil)) (gName 1))
  (tSeq (tFor (iRng1 (tConsC (.int 3) tNil)) (gName 2) 
     (tSeq (tAsg (tCall (sp_law_lengths K) [] E (tCons (tVar 1) (tCons (tOp (rIxL K) (tLst (tConsC (.int 6) (tConsC (.int 9) (tConsC (.int 12) tNil)))) (tCall (sp_law_take K) [] E (tCons (tVar 1) (tConsC (.int 3) tNil)))) tNil))) (gName 3))
     (tSeq (tAsg (tOpD xAdd (.int 2) (tCall (sp_law_take K) [] E (tCons (tVar 1) (tConsC (.int 5) tNil)))) (gName 4))
      (tSeq (tAsg (tCB1 (xLen K) (tVar 3)) (gName 5))
       (tSeq (tAsg (tCall (sp_paper K) [] E (tCons (tVar 3) (tCons (tVar 4) tNil))) (gName 6))
        (tSeq (tAsg (tLst tNil) (gName 7))
         (tSeq (tFor (iRng1 (tCons (tVar 5) tNil)) (gName 8) (tDrop (tBM K "list" rExtend (tVar 7) (tCons (tLc (iRng2 (tCons (tOpC xAdd (tVar 8) (.int 2)) (tCons (tOpC xAdd (tVar 5) (.int 1)) tNil))) (gName 17) tYes (tTup (tCons (tVar 8) (tCons (tVar 17) tNil))) [17]) tNil))))
          (tSeq (tIfS (tTest (tOp (rNeD K) (tLc (iList K (tVar 6)) (gName 18) tYes (tSl (rSlTA K) (tVar 18) tNoPart (tPart (tC (.int 2)))) [18]) (tVar 7))) (tRet (tC (.bl false))) tNext)
           (tFor (iRng1 (tConsC (.int 4) tNil)) (gName 9) 
              (tSeq (tAsg (tCall (sp_paper K) [] E (tCons (tVar 3) (tCons (tVar 4) tNil))) (gName 10))
              (tSeq (tAsg (tLc (iList K (tVar 6)) (gName 18) tYes (tBM K "list" rPopAt (tVar 10) (tCons (tCall (sp_law_take K) [] E0 (tCons (tVar 1) (tCons (tCB1 (xLen K) (tVar 10)) tNil))) tNil)) [18]) (gName 11))
               (tSeq (tFor (iRng1 (tCons (tCall (sp_law_take K) [] E (tCons (tVar 1) (tConsC (.int 3) tNil))) tNil)) (gName 12) (tAsg (tCall (sp_law_bent K) [] E (tCons (tVar 1) (tCons (tVar 5) (tCons (tVar 11) tNil)))) (gName 11)))
                (tSeq (tAsg (tCB1 (xList K) (tVar 11)) (gName 13))
                 (tSeq (tAsg (tCall (sp_law_due K) [] E (tCons (tVar 3) (tCons (tVar 4) (tCons (tVar 11) tNil)))) (gName 14))
                  (tSeq (tAsg (tLam (tabs Lms_k10 K) (TTold K) (fun E => (tCall (sp_bound K) [] E (tCons (tVar 3) (tCons (tVar 4) (tCons (tVar 13) tNil)))))) (gName 15))
                   (tSeq (tIfS (tOr (tNot (tB (tCall (sp_law_alike K) [] E (tCons (tVar 15) (tCons (tVar 14) tNil))))) (tTest (tOp (rNeD K) (tVar 13) (tVar 11)))) (tRet (tC (.bl false))) tNext)
                    (tSeq (tAsg (tCall (sp_law_side K) [] E (tCons (tVar 1) (tCons (tLstRg (tRg1 (tVar 5))) (tCons (tVar 4) tNil)))) (gName 16))
                     (tIfS (tAnd (tB (tIsi K "int" (tVar 15))) (tTest (tOp xGt (tVar 15) (tCall (sp_law_cost K) [] E (tCons (tVar 3) (tCons (tVar 16) tNil)))))) (tRet (tC (.bl false))) tNext))))))))))))))))))
   (tRet (tC (.bl true)))))
def tAgain (K : PySem.W.Frag) (E : XK) : TS :=
              (tSeq (tAsg (tCall (sp_paper K) [] E (tCons (tVar 3) (tCons (tVar 4) tNil))) (gName 10))
              (tSeq (tAsg (tLc (iList K (tVar 6)) (gName 18) tYes (tBM K "list" rPopAt (tVar 10) (tCons (tCall (sp_law_take K) [] E0 (tCons (tVar 1) (tCons (tCB1 (xLen K) (tVar 10)) tNil))) tNil)) [18]) (gName 11))
               (tSeq (tFor (iRng1 (tCons (tCall (sp_law_take K) [] E (tCons (tVar 1) (tConsC (.int 3) tNil))) tNil)) (gName 12) (tAsg (tCall (sp_law_bent K) [] E (tCons (tVar 1) (tCons (tVar 5) (tCons (tVar 11) tNil)))) (gName 11)))
                (tSeq (tAsg (tCB1 (xList K) (tVar 11)) (gName 13))
                 (tSeq (tAsg (tCall (sp_law_due K) [] E (tCons (tVar 3) (tCons (tVar 4) (tCons (tVar 11) tNil)))) (gName 14))
                  (tSeq (tAsg (tLam (tabs Lms_k10 K) (TTold K) (fun E => (tCall (sp_bound K) [] E (tCons (tVar 3) (tCons (tVar 4) (tCons (tVar 13) tNil)))))) (gName 15))
                   (tSeq (tIfS (tOr (tNot (tB (tCall (sp_law_alike K) [] E (tCons (tVar 15) (tCons (tVar 14) tNil))))) (tTest (tOp (rNeD K) (tVar 13) (tVar 11)))) (tRet (tC (.bl false))) tNext)
                    (tSeq (tAsg (tCall (sp_law_side K) [] E (tCons (tVar 1) (tCons (tLstRg (tRg1 (tVar 5))) (tCons (tVar 4) tNil)))) (gName 16))
                     (tIfS (tAnd (tB (tIsi K "int" (tVar 15))) (tTest (tOp xGt (tVar 15) (tCall (sp_law_cost K) [] E (tCons (tVar 3) (tCons (tVar 16) tNil)))))) (tRet (tC (.bl false))) tNext)))))))))
theorem after {K : PySem.W.Frag} {E : XK} {EN : Ends} {H : Hp} {a l f g D hh : Addr} {fv dv : V} {ls : List Int} {gv xs : List V} {tl : Costs} {w : Nat} {x0 x2 x7 x8 x9 x10 x12 x16 x17 x18 : Option V} (B : Box H a l) (TT : Tabs (tabs Lms_k10 K) H) (ef : H f = some (.lst (ls.map V.int))) (ff : f ∉ [a, l]) (eg : H g = some (.lst gv)) (gg : g ∉ [a, l])
    (gl : GoodLens ls) (w2 : 2 ≤ w) (w6 : w ≤ 6) (eD : H D = some (.lst xs)) (eh : H hh = some (.lst xs)) (px : Paired (TripAt H) xs tl) (few : tl.length ≤ 100) (al : ∀ Q E, Q (.bl true) H → sp_law_alike K [fv, dv] H Q E)
    (hf : (fv = .int (cOf tl 0 (ls.length : Int)) ∧ Due w ls tl) ∨ ∃ u es, fv = .ref u ∧ H u = some (.tup es))
    (k : ∀ H' y16, Box H' a l → Tabs (tabs Lms_k10 K) H' → H' f = some (.lst (ls.map V.int)) → H' g = some (.lst gv) →
      EN.nx [x0, some (.ref a), x2, some (.ref f), some (.int (w : Int)), some (.int (ls.length : Int)), some (.ref g), x7, x8, x9, x10, some (.ref D), x12, some (.ref hh), some dv, some fv, y16, x17, x18] H') :
    (tSeq (tIfS (tOr (tNot (tB (tCall (sp_law_alike K) [] E (tCons (tVar 15) (tCons (tVar 14) tNil))))) (tTest (tOp (rNeD K) (tVar 13) (tVar 11)))) (tRet (tC (.bl false))) tNext)
                    (tSeq (tAsg (tCall (sp_law_side K) [] E (tCons (tVar 1) (tCons (tLstRg (tRg1 (tVar 5))) (tCons (tVar 4) tNil)))) (gName 16))
                     (tIfS (tAnd (tB (tIsi K "int" (tVar 15))) (tTest (tOp xGt (tVar 15) (tCall (sp_law_cost K) [] E (tCons (tVar 3) (tCons (tVar 16) tNil)))))) (tRet (tC (.bl false))) tNext))) EN [x0, some (.ref a), x2, some (.ref f), some (.int (w : Int)), some (.int (ls.length : Int)), some (.ref g), x7, x8, x9, x10, some (.ref D), x12, some (.ref hh), some dv, some fv, x16, x17, x18] H := by
  have g1 := gl.pos
  have g4 := gl.le
  have ok := trip_ok tl (by omega)
  have dpl : ∀ x, H x = some (.lst xs) → Dp K H (.ref x) (.list (tl.map tripD)) := fun x e => .lst (SqL.of e) (dpAll (R := TripAt) (fun v q h => trip_dp h) px)
  refine ⟨_, rfl, _, rfl, ?_⟩
  dsimp only [tNil, List.append_nil]
  refine al _ _ ⟨_, rfl, _, rfl, _, rfl, _, _, dpl _ eh, dpl _ eD, ok.shaped (by decide), ok.shaped (by decide), ?_⟩
  rw [ok.eqv]
  refine ⟨_, rfl, ?_⟩
  refine ⟨_, rfl, _, rfl, _, rfl, RgOk.of_le (by decide) (by omega) (by decide) (by omega), fun q2 hq2 => ?_⟩
  have erg : rgV 0 ((ls.length : Nat) : Int) = (rng 0 ls.length).map V.int := by
    unfold rgV rng
    rw [List.map_map]
    rfl
  rw [erg]
  generalize gX : upd _ q2 _ = H1
  have s1 := newS hq2 gX
  have eq2 := newE gX
  clear gX
  have rl := rng_len ls.length
  refine ⟨_, rfl, a, l, q2, rng 0 ls.length, w, rfl, rfl, eq2, rfl, w2, w6, by omega, by omega, B.same s1, fun v pl H3 hv fit pm B3 k3 => ?_⟩
  have k03 := (But.same (S := [a, l]) s1).trans k3
  have ef3 := k03 _ _ ef ff
  have T3 := tabs_but TT k03 B.free
  rcases hf with ⟨rfl, due⟩ | ⟨u, es, rfl, eu⟩
  · refine ⟨_, rfl, isi_go (t := "int") (b := true) (.base (.int _)) (by decide +kernel) ⟨_, rfl, ?_⟩⟩
    have prl := congrArg List.length pm
    rw [rl] at prl
    have deep := Pl.deep pl fit
    have slim := Pl.slim_fits (by omega) pl fit
    refine ⟨_, rfl, _, rfl, _, rfl, f, ls, pl, rfl, ef3, hv, by omega, by omega, slim, by omega, fun r hr => ?_, fun H4 s4 => ?_⟩
    · rw [pm] at hr
      have := rng_in hr
      constructor <;> omega
    · have low := paper_all (c := cOf tl) due.2 (fun b => by
        have : cLook tl b (b + 1) = none := look_none (fun z => by
          have := (stretch_mem.mp (due.1.mem_iff.mp z)).2.1
          have this : b + 2 ≤ b + 1 := this
          omega)
        unfold cOf
        rw [this]
        exact Int.le_refl _) g1 (p := pl.sub fun r => ls.getD r.toNat 0) (by rw [Pl.sub_fits, fit]) (by rw [Pl.sub_runs, pm, rng_get])
      rw [Pl.sub_wc] at low
      refine ⟨_, _, rfl, rfl, _, rfl, ?_⟩
      rw [decide_eq_false (show ¬ pl.cost ls < cOf tl 0 (ls.length : Int) by omega)]
      exact k H4 _ (B3.same s4) (tabs_same T3 s4) (s4 _ _ ef3) (s4 _ _ (k03 _ _ eg gg))
  · refine ⟨_, rfl, isi_go (t := "tuple") (b := false) (tyT (SqT.of (B.tup k03 _ _ eu))) (by decide +kernel) ⟨_, rfl, ?_⟩⟩
    exact k H3 _ B3 T3 ef3 (k03 _ _ eg gg)
theorem again {K : PySem.W.Frag} {E : XK} {EN : Ends} {H : Hp} {a l f g : Addr} {ls : List Int} {gv : List V} {w : Nat} {x0 x2 x7 x8 x9 x10 x11 x12 x13 x14 x15 x16 x17 x18 : Option V} (eB : ErrIs K "BadPaper") (B : Box H a l) (TT : Tabs (tabs Lms_k10 K) H) (ef : H f = some (.lst (ls.map V.int))) (ff : f ∉ [a, l]) (eg : H g = some (.lst gv)) (gg : g ∉ [a, l]) (lgv : gv.length = (stretchL ls.length).length)
    (gl : GoodLens ls) (l12 : ls.length ≤ 12) (w2 : 2 ≤ w) (w6 : w ≤ 6)
    (k : ∀ H' y10 y11 y12 y13 y14 y15 y16, Box H' a l → Tabs (tabs Lms_k10 K) H' → H' f = some (.lst (ls.map V.int)) → H' g = some (.lst gv) →
      EN.nx [x0, some (.ref a), x2, some (.ref f), some (.int (w : Int)), some (.int (ls.length : Int)), some (.ref g), x7, x8, x9, y10, y11, y12, y13, y14, y15, y16, x17, x18] H') :
    tAgain K E EN [x0, some (.ref a), x2, some (.ref f), some (.int (w : Int)), some (.int (ls.length : Int)), some (.ref g), x7, x8, x9, x10, x11, x12, x13, x14, x15, x16, x17, x18] H := by
  have g1 := gl.pos
  have sc := stretch_count l12
  have s66 : (stretchL ls.length).length ≤ 66 := by
    have : ∀ n : Nat, n < 13 → (stretchL n).length ≤ 66 := by decide +kernel
    exact this _ (by omega)
  refine ⟨_, rfl, _, rfl, f, ls, w, rfl, ef, gl, rfl, w2, w6, fun q H1 cl el tl hq ⟨qv, eq, pq⟩ N tp tsrt tvv s1 => ?_⟩
  have lq := pq.length
  have ltl := tp.length_eq
  rw [List.length_map] at ltl
  have B1 := B.same s1
  have qfr := B.fresh hq
  refine ⟨_, rfl, g, rfl, ⟨_, SqL.of (s1 _ _ eg)⟩, fun D hD => ?_⟩
  have Dfr := B1.fresh hD
  have eq1 := eq
  have nDq : D ≠ q := (ne_of_none eq hD).symm
  have D0 := s1.free hD
  refine lc_list (K := K) (a := g) (xs := gv) (fun i H' => ∃ (xs ys : List V) (t1 t2 : Costs), H' q = some (.lst xs) ∧ H' D = some (.lst ys) ∧ Paired (TripAt H') xs t1 ∧ Paired (TripAt H') ys t2 ∧ xs.length + i = gv.length ∧ ys.length = i ∧ Box H' a l ∧ But [a, l] H H')
    ⟨qv, [], tl, [], un eq hD, upd_same, Paired.tl TripAt.st (TupLe.new hD) pq, .nil, by omega, rfl, B1.same (Rs.Same.new hD), But.same (s1.trans (Rs.Same.new hD))⟩ ?_ ?_ ?_
  · rintro i H' _ ⟨_, _, _, _, _, _, _, _, _, _, _, k'⟩
    exact SqL.of (k' _ _ eg gg)
  · rintro i v H2 hi ⟨xs, ys, t1, t2, eq2, eD2, p1, p2, lx, ly, B2, k2⟩
    have hil := (List.getElem?_eq_some_iff.mp hi).1
    refine ⟨rfl, lc_yes ⟨_, rfl, .inl ⟨rfl, _, SqL.of eq2⟩, _, rfl, _, rfl, lenL eq2 rfl ⟨a, l, _, rfl, rfl, by omega, by omega, B2, fun r H3 r0 r1 B3 k3 => ?_⟩⟩⟩
    obtain ⟨z, rfl⟩ : ∃ z : Nat, r = (z : Int) := ⟨r.toNat, by omega⟩
    have hz : z < xs.length := by omega
    have eq3 := k3 _ _ eq2 qfr
    have eD3 := k3 _ _ eD2 Dfr
    have t23 := B2.tup k3
    refine ⟨q, _, _, z, xs[z], rfl, rfl, eq3, by omega, by omega, seqIx hz, List.getElem?_eq_getElem hz, ?_⟩
    have t34 : TupLe H3 (upd H3 q (.lst (xs.eraseIdx z))) := (TupLe.refl _).list eq3
    have eD4 : upd H3 q (.lst (xs.eraseIdx z)) D = some (.lst ys) := up eD3 nDq
    have t45 : TupLe (upd H3 q (.lst (xs.eraseIdx z))) (upd (upd H3 q (.lst (xs.eraseIdx z))) D (.lst (ys ++ [xs[z]]))) := (TupLe.refl _).list eD4
    have t25 := (t23.trans t34).trans t45
    obtain ⟨c, hc, hcat⟩ := P2.get p1 (List.getElem?_eq_getElem hz)
    refine ⟨_, eD4, szlt (by omega), xs.eraseIdx z, ys ++ [xs[z]], t1.eraseIdx z, t2 ++ [c], up upd_same nDq.symm, upd_same, ?_, P2.app (Paired.tl TripAt.st t25 p2) (P2.one (TripAt.st _ _ _ _ t25 hcat)), by rw [List.length_eraseIdx_of_lt hz]; omega, by rw [List.length_append, ly]; rfl, ?_, ?_⟩
    · exact Paired.tl TripAt.st t25 (P2.erase z p1)
    · exact (B3.keep (fun o e => up e fun z => qfr (by rw [← z]; simp)) fun o e => up e fun z => qfr (by rw [← z]; simp)).keep (fun o e => up e fun z => Dfr (by rw [← z]; simp)) fun o e => up e fun z => Dfr (by rw [← z]; simp)
    · exact ((k2.trans k3).mut hq).mut D0
  rintro H2 ⟨xs, ys, t1, t2, eq2, eD2, p1, p2, lx, ly, B2, k2⟩
  clear p1 eq2 lx
  have lys := p2.length
  refine ⟨_, rfl, a, l, _, rfl, rfl, by decide, by decide, B2, fun m H3 m0 m1 B3 k3 => ⟨_, rfl, by omega, by omega, ?_⟩⟩
  have k03 := k2.trans k3
  refine for_range (lo := 0) (n := m.toNat) (fun i σ H' => ∃ (D' : Addr) (y12 : Option V) (t3 : Costs), σ = [x0, some (.ref a), x2, some (.ref f), some (.int (w : Int)), some (.int (ls.length : Int)), some (.ref g), x7, x8, x9, some (.ref q), some (.ref D'), y12, x13, x14, x15, x16, x17, x18] ∧ D' ∉ [a, l] ∧ Lst TripAt H' D' t3 ∧ t3.length ≤ 66 + i ∧ Box H' a l ∧ But [a, l] H H')
    ⟨D, x12, t2, rfl, Dfr, ⟨ys, k3 _ _ eD2 Dfr, Paired.tl TripAt.st (B2.tup k3) p2⟩, by omega, B3, k03⟩ ?_ ?_
  · rintro i σ H4 hi ⟨D', y12, t3, rfl, nD, L, le, B4, k4⟩
    refine ⟨_, rfl, _, rfl, _, rfl, a, l, D', _, t3, rfl, rfl, rfl, B4, nD, L, by omega, fun p H5 t4 hp L4 le4 B5 k5 => ?_⟩
    exact ⟨p, _, t4, rfl, B4.fresh hp, L4, by omega, B5, k4.trans k5⟩
  rintro σ H4 ⟨D', y12, t3, rfl, nD, ⟨dv, eD, pD⟩, le, B4, k4⟩
  have le68 : t3.length ≤ 68 := by omega
  clear eq1 B1 B2 B3 k2 k3 k03 eD2 p2 lys s1
  refine ⟨_, rfl, D', _, rfl, .inl (SqL.of eD), fun hh hhh => ?_⟩
  generalize gX : upd _ hh _ = H5
  have s5 := newS hhh gX
  have eh := newE gX
  clear gX
  have k5 := k4.trans (But.same (S := [a, l]) s5)
  have pD5 := Paired.tl TripAt.st (TupLe.same s5) pD
  have eD5 := s5 _ _ eD
  have ef5 := k5 _ _ ef ff
  have eg5 := k5 _ _ eg gg
  have B5 := B4.same s5
  have T5 := tabs_but TT k5 B.free
  have fin : ∀ H6 (du : V), Same H5 H6 → ((Due w ls t3 ∧ du = .int (cOf t3 0 (ls.length : Int))) ∨ (¬ Due w ls t3 ∧ ∃ t, du = .ref t ∧ H6 t = some (.tup [.str "BadPaper", .int 0]))) →
      (tSeq (tAsg (tLam (tabs Lms_k10 K) (TTold K) (fun E => (tCall (sp_bound K) [] E (tCons (tVar 3) (tCons (tVar 4) (tCons (tVar 13) tNil)))))) (gName 15)) (tSeq (tIfS (tOr (tNot (tB (tCall (sp_law_alike K) [] E (tCons (tVar 15) (tCons (tVar 14) tNil))))) (tTest (tOp (rNeD K) (tVar 13) (tVar 11)))) (tRet (tC (.bl false))) tNext)
                    (tSeq (tAsg (tCall (sp_law_side K) [] E (tCons (tVar 1) (tCons (tLstRg (tRg1 (tVar 5))) (tCons (tVar 4) tNil)))) (gName 16))
                     (tIfS (tAnd (tB (tIsi K "int" (tVar 15))) (tTest (tOp xGt (tVar 15) (tCall (sp_law_cost K) [] E (tCons (tVar 3) (tCons (tVar 16) tNil)))))) (tRet (tC (.bl false))) tNext)))) EN [x0, some (.ref a), x2, some (.ref f), some (.int (w : Int)), some (.int (ls.length : Int)), some (.ref g), x7, x8, x9, some (.ref q), some (.ref D'), y12, some (.ref hh), some du, x15, x16, x17, x18] H6 := fun H6 du s6 hdu => by
    refine told_by (tabs_same T5 s6) fun H7 e7 T7 => ?_
    have t57 := (TupLe.same s6).trans (extN_tup e7)
    have n7 : ∀ {x : Addr} {vs : List V}, H5 x = some (.lst vs) → H7 x = some (.lst vs) := fun h => e7 _ _ (s6 _ _ h) fun _ z => by cases z
    have B7 := (B5.same s6).keepN (ButN.ext (F := []) e7) fun _ _ z => nomatch z
    have p7 := Paired.tl TripAt.st t57 pD5
    refine ⟨_, rfl, _, rfl, _, rfl, f, ls, w, hh, t3, rfl, n7 ef5, gl, rfl, w2, w6, rfl, ⟨dv, n7 eh, p7⟩, by omega, fun due H8 s8 => ?_, fun nd H8 s8 => ?_⟩
    · rcases hdu with ⟨_, rfl⟩ | ⟨z, _⟩
      · exact after (B7.same s8) (tabs_same T7 s8) (s8 _ _ (n7 ef5)) ff (s8 _ _ (n7 eg5)) gg gl w2 w6 (s8 _ _ (n7 eD5)) (s8 _ _ (n7 eh)) (Paired.tl TripAt.st (TupLe.same s8) p7) (by omega) (fun Q E q => ⟨.int _, trivial, .int _, .int _, q⟩) (.inl ⟨rfl, due⟩) fun H' y16 B' T' f' g' => k H' _ _ _ _ _ _ _ B' T' f' g'
      · exact (z due).elim
    · rcases hdu with ⟨z, _⟩ | ⟨_, t, rfl, et⟩
      · exact (nd z).elim
      · refine rErr_plain eB (by decide) fun u H9 hu s9 eu => ?_
        have s79 := s8.trans s9
        have et9 := s79 _ _ (extN_tup e7 _ _ et)
        exact after (B7.same s79) (tabs_same T7 s79) (s79 _ _ (n7 ef5)) ff (s79 _ _ (n7 eg5)) gg gl w2 w6 (s79 _ _ (n7 eD5)) (s79 _ _ (n7 eh)) (Paired.tl TripAt.st (TupLe.same s79) p7) (by omega) (fun Q E q => alike_err eu et9 q) (.inr ⟨u, _, rfl, eu⟩) fun H' y16 B' T' f' g' => k H' _ _ _ _ _ _ _ B' T' f' g'
  refine ⟨_, rfl, _, rfl, _, rfl, f, ls, w, D', t3, rfl, ef5, gl, l12, rfl, w2, w6, rfl, ⟨dv, eD5, pD5⟩, by omega, fun due H6 s6 => ?_, fun nd t H6 ht et s6 => ?_⟩
  · exact fin H6 _ s6 (.inl ⟨due, rfl⟩)
  · exact fin H6 _ s6 (.inr ⟨nd, t, rfl, et⟩)
theorem pure_law {K : PySem.W.Frag} (eBadPaper : ErrIs K "BadPaper") : ∀ vs H Q E, sp_law K vs H Q E → t_law K E { nx := fun _ H' => Q .non H', rt := Q } (start N_law vs) H := by
  intro vs H Q E h
  match vs, h with
  | [sv], h =>
    obtain ⟨s, ns, rfl, hs, l63, TT, k⟩ := h
    refine ⟨_, rfl, s, ns, rfl, hs, l63, fun a l H1 ha hl B1 s1 => ?_⟩
    refine ⟨_, rfl, by decide, by decide, ?_⟩
    refine for_range (lo := 0) (n := (3 : Int).toNat) (fun i σ H' => ∃ x2 x3 x4 x5 x6 x7 x8 x9 x10 x11 x12 x13 x14 x15 x16 x17 x18, σ = [some (.ref s), some (.ref a), x2, x3, x4, x5, x6, x7, x8, x9, x10, x11, x12, x13, x14, x15, x16, x17, x18] ∧ Box H' a l ∧ Tabs (tabs Lms_k10 K) H')
      ⟨_, _, _, _, _, _, _, _, _, _, _, _, _, _, _, _, _, rfl, B1, tabs_same TT s1⟩ ?_ ?_
    rotate_left
    · rintro σ H2 ⟨x2, x3, x4, x5, x6, x7, x8, x9, x10, x11, x12, x13, x14, x15, x16, x17, x18, rfl, B2, T2⟩
      exact k H2
    rintro i σ H2 hi ⟨x2, x3, x4, x5, x6, x7, x8, x9, x10, x11, x12, x13, x14, x15, x16, x17, x18, rfl, B2, T2⟩
    refine ⟨_, rfl, szle (by show 3 ≤ 100000; decide), fun c hc => ?_⟩
    have nc := B2.fresh hc
    generalize gX : upd _ c _ = H3
    have s3 := newS hc gX
    have ec := newE gX
    clear gX
    have B3 := B2.same s3
    refine ⟨_, rfl, a, l, _, rfl, rfl, by decide, by decide, B3, fun r H4 r0 r1 B4 k4 => ?_⟩
    obtain ⟨m, hm, m1, m12⟩ : ∃ m : Int, ([V.int 6, V.int 9, V.int 12] : List V)[r.toNat]? = some (.int m) ∧ 1 ≤ m ∧ m ≤ 12 := by
      obtain e | e | e : r.toNat = 0 ∨ r.toNat = 1 ∨ r.toNat = 2 := by omega
      · rw [e]; exact ⟨_, rfl, by decide, by decide⟩
      · rw [e]; exact ⟨_, rfl, by decide, by decide⟩
      · rw [e]; exact ⟨_, rfl, by decide, by decide⟩
    refine ixL (k4 _ _ ec nc) (j := r.toNat) (by omega) hm ⟨a, l, m, rfl, rfl, m1, by omega, B4, fun f ls H5 hf ef gl lm B5 k5 => ?_⟩
    have ff := B4.fresh hf
    have g1 := gl.pos
    have l12 : ls.length ≤ 12 := by omega
    refine ⟨_, rfl, a, l, _, rfl, rfl, by decide, by decide, B5, fun r2 H6 r20 r21 B6 k6 => ⟨_, _, rfl, rfl, ?_⟩⟩
    obtain ⟨w, ew, w2, w6⟩ : ∃ w : Nat, (2 + r2 : Int) = (w : Int) ∧ 2 ≤ w ∧ w ≤ 6 := ⟨(2 + r2).toNat, by omega, by omega, by omega⟩
    dsimp only
    rw [ew]
    have ef6 := k6 _ _ ef ff
    have k26 := (((But.same (S := [a, l]) s3).trans k4).trans k5).trans k6
    have T6 := tabs_but T2 k26 B2.free
    refine ⟨_, rfl, lenL ef6 rfl ?_⟩
    rw [List.length_map]
    refine ⟨_, rfl, _, rfl, f, ls, w, rfl, ef6, gl, rfl, w2, w6, fun g H7 cl el tl hg ⟨gv, eg, pg⟩ N tp tsrt tvv s7 => ?_⟩
    have gg := B6.fresh hg
    have lgv := pg.length
    have ltl := tp.length_eq
    rw [List.length_map] at ltl
    have B7 := B6.same s7
    refine ⟨sz0, fun q hq => ?_⟩
    have qq := B7.fresh hq
    have ef7 := s7 _ _ ef6
    have q0 := hq
    refine ⟨_, rfl, _, rfl, by omega, by omega, ?_⟩
    refine for_range (lo := 0) (n := ((ls.length : Nat) : Int).toNat) (fun j σ H' => ∃ (vs : List V) (x8 : Option V), σ = [some (.ref s), some (.ref a), some (.int (0 + (i : Int))), some (.ref f), some (.int (w : Int)), some (.int (ls.length : Int)), some (.ref g), some (.ref q), x8, x9, x10, x11, x12, x13, x14, x15, x16, x17, x18] ∧ H' q = some (.lst vs) ∧ Paired (IIAt H') vs (placesL ls.length j) ∧ Same H7 H')
      ⟨[], x8, rfl, upd_same, .nil, Rs.Same.new hq⟩ ?_ ?_
    · rintro j σ H8 hj ⟨vs, x8, rfl, eq8, pv, s8⟩
      have hj : j < ls.length := by omega
      have lv := pv.length
      have few := placesL_few l12 (Nat.le_of_lt hj)
      refine ⟨_, rfl, .inl ⟨rfl, _, SqL.of eq8⟩, _, rfl, _, _, rfl, rfl, _, rfl, _, _, rfl, rfl, _, _, rfl, ⟨by omega, by omega, by omega, by omega⟩, fun D hD => ?_⟩
      have nqD : q ≠ D := ne_of_none eq8 hD
      refine lc_range (lo := 0 + (j : Int) + 2) (n := ((ls.length : Int) + 1 - (0 + (j : Int) + 2)).toNat) (fun z H' => ∃ ws, H' D = some (.lst ws) ∧ Paired (IIAt H') ws ((List.range z).map fun (y : Nat) => ((j : Int), (j : Int) + 2 + (y : Int))) ∧ Same H8 H') ⟨[], upd_same, .nil, Rs.Same.new hD⟩ ?_ ?_
      · rintro z H9 hz ⟨ws, eD, pw, s9⟩
        have lw := pw.length
        rw [List.length_map, List.length_range] at lw
        refine ⟨rfl, lc_yes ⟨_, rfl, _, rfl, szle (by show 2 ≤ 100000; decide), fun t ht => ?_⟩⟩
        have nDt : D ≠ t := ne_of_none eD ht
        generalize gX : upd _ t _ = H10
        have s10 := newS ht gX
        have et := newE gX
        clear gX
        have eD10 := s10 _ _ eD
        have t2 : TupLe H10 (upd H10 D (.lst (ws ++ [.ref t]))) := (TupLe.refl _).list eD10
        refine ⟨ws, eD10, szlt (by omega), ws ++ [.ref t], upd_same, ?_, Rs.Same.mut (s9.trans s10) hD⟩
        rw [List.range_succ, List.map_append, List.map_singleton]
        refine P2.app (Paired.tl IIAt.st ((TupLe.same s10).trans t2) pw) (P2.one ⟨t, rfl, t2 _ _ ?_⟩)
        rw [et]
        show some (HO.tup [V.int (0 + (j : Int)), V.int (0 + (j : Int) + 2 + (z : Int))]) = some (HO.tup [V.int (j : Int), V.int ((j : Int) + 2 + (z : Int))])
        rw [Int.zero_add]
      · rintro H9 ⟨ws, eD, pw, s9⟩
        have lw := pw.length
        rw [List.length_map, List.length_range] at lw
        have eq9 := s9 _ _ eq8
        have t2 : TupLe H9 (upd H9 q (.lst (vs ++ ws))) := (TupLe.refl _).list eq9
        refine ⟨q, D, _, _, rfl, rfl, eq9, eD, szle (by omega), _, _, rfl, upd_same, ?_, Rs.Same.mut (s8.trans s9) q0⟩
        rw [placesL_succ, show ls.length + 1 - (j + 2) = ((ls.length : Int) + 1 - (0 + (j : Int) + 2)).toNat by omega]
        exact P2.app (Paired.tl IIAt.st ((TupLe.same s9).trans t2) pv) (Paired.tl IIAt.st t2 pw)
    · rintro σ H8 ⟨vs, x8, rfl, eq8, pv, s8⟩
      rw [show ((ls.length : Nat) : Int).toNat = ls.length by omega] at pv
      have lv := pv.length
      have few := placesL_few l12 (Nat.le_refl _)
      obtain ⟨pp, ps⟩ := placesL_ok l12
      have lpp := pp.length_eq
      have epl : tl.map (·.1) = placesL ls.length ls.length := srtL_one (tp.trans pp.symm) tsrt ps
      have eg8 := s8 _ _ eg
      have B8 := B7.same s8
      have pg8 := Paired.tl TripAt.st (TupLe.same s8) pg
      have s78 := s7.trans s8
      refine ⟨_, rfl, g, rfl, ⟨_, SqL.of eg8⟩, fun D hD => ?_⟩
      refine lcm_list (S := IIAt) (fun q : (Int × Int) × Int => some q.1) IIAt.st eg8 pg8 hD ?_ (by omega) ?_
      · intro j v x H' hx hj r s9 skip put
        obtain ⟨ta, rfl, ea⟩ := r
        refine ⟨rfl, lc_yes ⟨_, rfl, _, rfl, slTA (s9 _ _ ea) fun t H9 et s10 => ?_⟩⟩
        exact put _ _ _ s10 rfl ⟨t, rfl, et⟩
      intro H9 ⟨dv, eD, pD⟩ s9
      rw [fm_some, epl] at pD
      have pv9 := Paired.tl IIAt.st (TupLe.same s9) pv
      have okk : okD 3 (.list ((placesL ls.length ls.length).map iiD)) := list_ok (n := 2) (by omega) fun q _ => ⟨by show 2 ≤ 100000; decide, fun d hd => by
        simp only [List.mem_cons, List.not_mem_nil, or_false] at hd
        rcases hd with rfl | rfl <;> exact trivial⟩
      refine ⟨_, rfl, .list ((placesL ls.length ls.length).map iiD), .list ((placesL ls.length ls.length).map iiD), .lst (SqL.of eD) (dpAll (R := IIAt) (fun v q h => ii_dp h) pD), .lst (SqL.of (s9 _ _ eq8)) (dpAll (R := IIAt) (fun v q h => ii_dp h) pv9), okk.shaped (by decide), okk.shaped (by decide), ?_⟩
      rw [okk.eqv]
      refine ⟨_, rfl, ?_⟩
      refine ⟨_, rfl, by decide, by decide, ?_⟩
      have s69 := s78.trans s9
      refine for_range (lo := 0) (n := (4 : Int).toNat) (fun j σ H' => ∃ y9 y10 y11 y12 y13 y14 y15 y16, σ = [some (.ref s), some (.ref a), some (.int (0 + (i : Int))), some (.ref f), some (.int (w : Int)), some (.int (ls.length : Int)), some (.ref g), some (.ref q), x8, y9, y10, y11, y12, y13, y14, y15, y16, x17, x18] ∧ Box H' a l ∧ Tabs (tabs Lms_k10 K) H' ∧ H' f = some (.lst (ls.map V.int)) ∧ H' g = some (.lst gv))
        ⟨_, _, _, _, _, _, _, _, rfl, B8.same s9, tabs_same T6 s69, s69 _ _ ef6, s9 _ _ eg8⟩ ?_ ?_
      · rintro j σ X hj ⟨y9, y10, y11, y12, y13, y14, y15, y16, rfl, BX, TX, fX, gX⟩
        exact again eBadPaper BX TX fX ff gX gg (by omega) gl l12 w2 w6 fun H' z10 z11 z12 z13 z14 z15 z16 B' T' f' g' => ⟨_, _, _, _, _, _, _, _, rfl, B', T', f', g'⟩
      · rintro σ X ⟨y9, y10, y11, y12, y13, y14, y15, y16, rfl, BX, TX, fX, gX⟩
        exact ⟨_, _, _, _, _, _, _, _, _, _, _, _, _, _, _, _, _, rfl, BX, TX⟩
end Rs


namespace Lw
open PySem PySem.Spec PyProof.Rows L2 Rs LamX
structure Wd (K : PySem.W.Frag) (mg : Str → Option Value) (base : Heap) : Prop where
  c : Hx.SaysM fs fn K
  X : ∃ h : Heap, K.In h ∧ h.Ns mainGlobals mg
  tab : TabF K mg base Lms_k10
section
variable {K : PySem.W.Frag} {mg : Str → Option Value} {base : Heap}
theorem nodup_tabs (c : Hx.SaysM fs fn K) : ((tabs Lms_k10 K).map (·.1)).Nodup := of_decide_eq_true (c.fact 0 (f := fun K => decide ((tf.map fun p => (He.cT K p).2).Nodup)) rfl)
theorem Wd.err (W : Wd K mg base) (i : Nat) {x : Str} (h : fe[i]? = some x) : ErrIs K x := errB_ok (W.c.fact (i + 1) (f := fun K => Rs.errB x K) (by
  show (fe.map (fun x K => Rs.errB x K) ++ fa.map fun f K => f.ok K)[i]? = _
  rw [List.getElem?_append_left (by rw [List.length_map]; exact (List.getElem?_eq_some_iff.mp h).1), List.getElem?_map, h]; rfl))
theorem says_fact (c : Hx.SaysM fs fn K) (i : Nat) {f : He.Fa} (h : fa[i]? = some f) : f.ok K = true := c.fact (fe.length + i + 1) (f := fun K => f.ok K) (by
  show (fe.map (fun x K => Rs.errB x K) ++ fa.map fun f K => f.ok K)[fe.length + i]? = _
  rw [List.getElem?_append_right (by rw [List.length_map]; omega), List.length_map, Nat.add_sub_cancel_left, List.getElem?_map, h]; rfl)
theorem Wd.fact (W : Wd K mg base) (i : Nat) {f : He.Fa} (h : fa[i]? = some f) : f.ok K = true := says_fact W.c i h
theorem lms_tf (p : He.Defn × Str) (h : p ∈ Lms_k10) : p.1 ∈ tf := by
  have e : Lms_k10.map (·.1) = tf := rfl
  rw [← e]
  exact List.mem_map.mpr ⟨p, h, rfl⟩
theorem tabs_start (H : Hp) (h : ∀ p ∈ tf, H (He.cT K p).2 = some (.tbl #[])) : Tabs (tabs Lms_k10 K) H := fun q hq => by
  obtain ⟨p, hp, rfl⟩ := List.mem_map.mp hq
  exact TabS.nil (h _ (lms_tf p hp))
theorem Wd.glo (W : Wd K mg base) (i : Nat) {x : Str} (h : fa[i]? = some (.glo x)) : mg x = some (.ref (He.ga K x)) := let ⟨_, a, b⟩ := W.X; He.glo_ok a b (W.fact i h)
theorem Wd.free (W : Wd K mg base) (i : Nat) {x : Str} (h : fa[i]? = some (.free x)) : mg x = none := let ⟨_, a, b⟩ := W.X; He.free_ok a b (W.fact i h)
theorem Wd.int (W : Wd K mg base) (i : Nat) {x : Str} {z : Int} (h : fa[i]? = some (.int x z)) : ∃ t, mg x = some (.int z t) := let ⟨_, a, b⟩ := W.X; He.int_ok a b (W.fact i h)
theorem Wd.str (W : Wd K mg base) (i : Nat) {x z : Str} (h : fa[i]? = some (.str x z)) : ∃ t, mg x = some (.str z t) := let ⟨_, a, b⟩ := W.X; He.str_ok a b (W.fact i h)
theorem Wd.cls (W : Wd K mg base) (i : Nat) {x : Str} (h : fa[i]? = some (.cls x)) : Cls K (He.ga K x) := He.cls_ok (W.fact i h)
theorem Wd.noat (W : Wd K mg base) (i : Nat) {x f : Str} (h : fa[i]? = some (.noat x f)) : NoAttr K (He.ga K x) f := He.noat_ok (W.fact i h)
theorem Wd.meth (W : Wd K mg base) (i : Nat) {x m : Str} (h : fa[i]? = some (.meth x m)) : Meth K (He.ga K x) m (He.ma K (He.ga K x) m) := He.meth_ok (W.fact i h)
theorem Wd.exc (W : Wd K mg base) (i : Nat) {x : Str} (h : fa[i]? = some (.exc x)) : PySem.W.excIn K (He.ga K x) He.veBase "ValueError.__new__" = true ∧ PySem.W.keepIn K (.ref (He.ga K x)) = true ∧ PySem.W.subIn K (.ref (He.ga K x)) (.type "BaseException") = some true ∧ PySem.W.typeIn K (.ref (He.ga K x)) = some (.type "type") := He.exc_ok (W.fact i h)
theorem Wd.exm (W : Wd K mg base) (i : Nat) {x y : Str} {b : Bool} (h : fa[i]? = some (.exm x y b)) : PySem.W.exmOne K (.ref (He.ga K x)) (.ref (He.ga K y)) = some b := He.exm_ok (W.fact i h)
theorem Wd.mkr (W : Wd K mg base) (i : Nat) {x : Str} (h : fa[i]? = some (.mkr x)) : Mk K (He.ga K x) (He.ma K (He.ga K x) "__init__") := He.mkr_ok (W.fact i h)
end
/-! ### each def keeps its promise -/
section
variable {P : Program} {w : World} {K : PySem.W.Frag} {mg : Str → Option Value} {base : Heap}
theorem sc_law_begun : FnScope N_law_begun P_law_begun (defScope s_law_begun) := ⟨rfl, rfl, rfl, by decide +kernel, rfl, by decide +kernel, by decide +kernel⟩
theorem ok_law_begun (W : Wd K mg base) : Can P w K mg base 1 ("_law_begun", none) P_law_begun (sp_law_begun K) := by
  obtain ⟨fd, F⟩ := W.c.def_ 0 (d := d_law_begun) rfl
  refine can_of F (F.bindsN fun _ _ _ _ _ _ us hl => match us, hl with | [_], _ => rfl) sc_law_begun (fun vs H Q E h => by unfold sp_law_begun at h; match vs, h with | [_], _ => rfl) (t_law_begun K) (fun cdv A outer s H E hr => ?_) (pure_law_begun)
  have nd := sc_law_begun.nd
  exact (pss_cons (ps_set (i := 1) nd rfl (Or.inl rfl) pe_int)
    (pss_cons (ps_for (passes_of rfl) rfl (pi_list (pv 0)) (pg_name (i := 2) nd rfl (Or.inl rfl)) (pss_one (ps_set (i := 1) nd rfl (Or.inl rfl) (pe_opC op_mod (pe_opC op_add (pe_op op_add (pe_opC op_mul (pv 1) pe_int) (pe_opC op_mul (pv 2) pe_int)) pe_int) pe_int))))
    (pss_one (ps_ret (pe_lst (pa_cons (pe_callTy1 call_list_of (by rfl) (W.free 0 rfl) (by decide +kernel) (pv 0)) (pa_cons (pe_op op_mul (pv 1) (pe_callTy1 call_int1 (by rfl) (W.free 2 rfl) (by decide +kernel) (pe_cmpRC op_gt (pe_callB1 call_len_seq (by rfl) (W.free 1 rfl) (by decide +kernel) (pv 0)) pe_int (nomark _)))) pa_nil)))))))
theorem sc_law_take : FnScope N_law_take P_law_take (defScope s_law_take) := ⟨rfl, rfl, rfl, by decide +kernel, rfl, by decide +kernel, by decide +kernel⟩
theorem ok_law_take (W : Wd K mg base) : Can P w K mg base 1 ("_law_take", none) P_law_take (sp_law_take K) := by
  obtain ⟨fd, F⟩ := W.c.def_ 1 (d := d_law_take) rfl
  refine can_of F (F.bindsN fun _ _ _ _ _ _ us hl => match us, hl with | [_, _], _ => rfl) sc_law_take (fun vs H Q E h => by unfold sp_law_take at h; match vs, h with | [_, _], _ => rfl) (t_law_take K) (fun cdv A outer s H E hr => ?_) (pure_law_take)
  have nd := sc_law_take.nd
  exact (pss_cons (ps_if (pt_cmpR (opx_eqE (hu_of hr)) (pe_ixC ix_list (pv 0) pe_int (fun _ _ => rfl)) (pe_lst pa_nil) (nomark _)) (pss_cons (ps_asg (pe_opC op_mod (pe_opC op_mul (pe_ixC ix_list (pv 0) pe_int (fun _ _ => rfl)) pe_int) pe_int) (pg_subC (pv 0) pe_int set_list))
    (pss_one (ps_ret (pe_op op_mod (pe_opC op_fdivW (pe_ixC ix_list (pv 0) pe_int (fun _ _ => rfl)) pe_int) (pv 1))))) pss_nil)
    (pss_cons (ps_set (i := 2) nd rfl (Or.inl rfl) (pe_ixC ix_list (pe_ixC ix_list (pv 0) pe_int (fun _ _ => rfl)) pe_int (fun _ _ => rfl)))
    (pss_cons (ps_asg (pe_op op_fdivW (pv 2) (pv 1)) (pg_subC (pe_ixC ix_list (pv 0) pe_int (fun _ _ => rfl)) pe_int set_list))
    (pss_cons (ps_if (PW.pt (pw_or (pt_cmpRC op_eq (pe_ixC ix_list (pe_ixC ix_list (pv 0) pe_int (fun _ _ => rfl)) pe_int (fun _ _ => rfl)) pe_int (nomark _)) (pw_or1 (pt_cmpRC op_eq (pe_ixC ix_list (pe_ixC ix_list (pv 0) pe_int (fun _ _ => rfl)) pe_int (fun _ _ => rfl)) (pe_unN pe_int) (nomark _))))) (pss_one (ps_expr (pe_bm PySem.F.plainAttrs_list PySem.F.slot_list_pop PySem.F.type_list_pop mt_popAt (pe_ixC ix_list (pv 0) pe_int (fun _ _ => rfl)) (pa_consC pe_int pa_nil)))) pss_nil)
    (pss_one (ps_ret (pe_op op_mod (pv 2) (pv 1))))))))
theorem sc_law_lengths : FnScope N_law_lengths P_law_lengths (defScope s_law_lengths) := ⟨rfl, rfl, rfl, by decide +kernel, rfl, by decide +kernel, by decide +kernel⟩
theorem ok_law_lengths (W : Wd K mg base) : Can P w K mg base 2 ("_law_lengths", none) P_law_lengths (sp_law_lengths K) := by
  obtain ⟨fd, F⟩ := W.c.def_ 2 (d := d_law_lengths) rfl
  refine can_of F (F.bindsN fun _ _ _ _ _ _ us hl => match us, hl with | [_, _], _ => rfl) sc_law_lengths (fun vs H Q E h => by unfold sp_law_lengths at h; match vs, h with | [_, _], _ => rfl) (t_law_lengths K) (fun cdv A outer s H E hr => ?_) (pure_law_lengths)
  have nd := sc_law_lengths.nd
  exact (pss_cons (ps_set (i := 2) nd rfl (Or.inl rfl) (pe_lst pa_nil))
    (pss_cons (ps_for (passes_of rfl) rfl (pi_range1 (by rfl) (W.free 4 rfl) (pa_cons (pe_opD op_add pe_int (pe_callC (ok_law_take W) (hr.mono (by decide)) rfl (W.glo 3 rfl) (passes_call (takes_of rfl rfl rfl rfl) (fun _ _ _ _ h => h)) (pa_cons (pv 0) (pa_cons (pv 1) pa_nil)))) pa_nil)) (pg_name (i := 3) nd rfl (Or.inl rfl)) (pss_cons (ps_set (i := 4) nd rfl (Or.inl rfl) (pe_lst (pa_cons (pe_opD op_add pe_int (pe_callC (ok_law_take W) (hr.mono (by decide)) rfl (W.glo 3 rfl) (passes_call (takes_of rfl rfl rfl rfl) (fun _ _ _ _ h => h)) (pa_cons (pv 0) (pa_consC pe_int pa_nil)))) (pa_cons (pe_opD op_add pe_int (pe_callC (ok_law_take W) (hr.mono (by decide)) rfl (W.glo 3 rfl) (passes_call (takes_of rfl rfl rfl rfl) (fun _ _ _ _ h => h)) (pa_cons (pv 0) (pa_consC pe_int pa_nil)))) (pa_cons (pe_opC op_add (pv 3) pe_int) (pa_cons (pe_opD op_add pe_int (pe_callC (ok_law_take W) (hr.mono (by decide)) rfl (W.glo 3 rfl) (passes_call (takes_of rfl rfl rfl rfl) (fun _ _ _ _ h => h)) (pa_cons (pv 0) (pa_cons (pe_opC op_pow pe_int pe_int) pa_nil)))) (pa_cons (pe_opC op_pow pe_int pe_int) pa_nil)))))))
    (pss_one (ps_expr (pe_bm PySem.F.plainAttrs_list PySem.F.slot_list_append PySem.F.type_list_append mt_append (pv 2) (pa_cons (pe_ix ix_list (pv 4) (pe_ix ix_list (pe_lst (pa_consC pe_int (pa_consC pe_int (pa_consC pe_int (pa_consC pe_int (pa_consC pe_int (pa_consC pe_int pa_nil))))))) (pe_callC (ok_law_take W) (hr.mono (by decide)) rfl (W.glo 3 rfl) (passes_call (takes_of rfl rfl rfl rfl) (fun _ _ _ _ h => h)) (pa_cons (pv 0) (pa_consC pe_int pa_nil))) (fun _ _ => rfl)) (fun _ _ => rfl)) pa_nil))))))
    (pss_one (ps_ret (pv 2)))))
theorem sc_need_lengths : FnScope N_need_lengths P_need_lengths (defScope s_need_lengths) := ⟨rfl, rfl, rfl, by decide +kernel, rfl, by decide +kernel, by decide +kernel⟩
theorem ok_need_lengths (W : Wd K mg base) : Can P w K mg base 1 ("need_lengths", none) P_need_lengths (sp_need_lengths K) := by
  obtain ⟨fd, F⟩ := W.c.def_ 3 (d := d_need_lengths) rfl
  refine can_of F (F.bindsN fun _ _ _ _ _ _ us hl => match us, hl with | [_], _ => rfl) sc_need_lengths (fun vs H Q E h => by unfold sp_need_lengths at h; match vs, h with | [_], _ => rfl) (t_need_lengths K) (fun cdv A outer s H E hr => ?_) (pure_need_lengths)
  have nd := sc_need_lengths.nd
  exact (pss_cons (ps_if (pt_not (pt_chain op_le op_le pe_int (pe_callB1 call_len_seq (by rfl) (W.free 1 rfl) (by decide +kernel) (pv 0)) (pe_gint rfl (W.int 5 rfl)))) (pss_one ps_never) pss_nil)
    (pss_one (ps_if (pt_cmpR (opx_neE (hu_of hr)) (pe_lc (own := [("length", 1)]) rfl nd (pi_list (pv 0)) (blkOk_by (own := [("length", 1)]) (N := N_need_lengths) (sc := defScope s_need_lengths) (by decide +kernel)) (fun _ _ _ _ _ => (pg_name (i := 1) nd rfl (Or.inl rfl))) (fun _ _ _ _ _ => (pts_one (pt_not (pt_chain op_le op_le pe_int (pv 1) (pe_gint rfl (W.int 6 rfl)))))) (fun _ _ _ _ _ => (pv 1))) (pe_lst pa_nil) (nomark _)) (pss_one ps_never) pss_nil)))
theorem sc_need_ways : FnScope N_need_ways P_need_ways (defScope s_need_ways) := ⟨rfl, rfl, rfl, by decide +kernel, rfl, by decide +kernel, by decide +kernel⟩
theorem ok_need_ways (W : Wd K mg base) : Can P w K mg base 1 ("need_ways", none) P_need_ways (sp_need_ways K) := by
  obtain ⟨fd, F⟩ := W.c.def_ 4 (d := d_need_ways) rfl
  refine can_of F (F.bindsN fun _ _ _ _ _ _ us hl => match us, hl with | [_], _ => rfl) sc_need_ways (fun vs H Q E h => by unfold sp_need_ways at h; match vs, h with | [_], _ => rfl) (t_need_ways K) (fun cdv A outer s H E hr => ?_) (pure_need_ways)
  have nd := sc_need_ways.nd
  exact (pss_one (ps_if (pt_not (pt_chain op_le op_le (pe_gint rfl (W.int 7 rfl)) (pv 0) (pe_gint rfl (W.int 8 rfl)))) (pss_one ps_never) pss_nil))
theorem sc_stretches : FnScope N_stretches P_stretches (defScope s_stretches) := ⟨rfl, rfl, rfl, by decide +kernel, rfl, by decide +kernel, by decide +kernel⟩
theorem ok_stretches (W : Wd K mg base) : Can P w K mg base 1 ("stretches", none) P_stretches (sp_stretches K) := by
  obtain ⟨fd, F⟩ := W.c.def_ 5 (d := d_stretches) rfl
  refine can_of F (F.bindsN fun _ _ _ _ _ _ us hl => match us, hl with | [_], _ => rfl) sc_stretches (fun vs H Q E h => by unfold sp_stretches at h; match vs, h with | [_], _ => rfl) (t_stretches K) (fun cdv A outer s H E hr => ?_) (pure_stretches)
  have nd := sc_stretches.nd
  exact (pss_cons (ps_set (i := 1) nd rfl (Or.inl rfl) (pe_lst pa_nil))
    (pss_cons (ps_for (passes_of rfl) rfl (pi_range2 (by rfl) (W.free 4 rfl) (pa_consC pe_int (pa_cons (pe_opC op_add (pv 0) pe_int) pa_nil))) (pg_name (i := 2) nd rfl (Or.inr rfl)) (pss_one (ps_expr (pe_bm PySem.F.plainAttrs_list PySem.F.slot_list_extend PySem.F.type_list_extend mt_extend (pv 1) (pa_cons (pe_lc (own := [("begin", 3)]) rfl nd (pi_range1 (by rfl) (W.free 4 rfl) (pa_cons (pe_opC op_add (pe_op op_sub (pv 0) (pv 2)) pe_int) pa_nil)) (blkOk_by (own := [("begin", 3)]) (N := N_stretches) (sc := defScope s_stretches) (by decide +kernel)) (fun _ _ _ _ _ => (pg_name (i := 3) nd rfl (Or.inl rfl))) (fun _ _ _ _ _ => pts_nil) (fun _ _ _ _ _ => (pe_tup (pa_cons (pv 3) (pa_cons (pe_op op_add (pv 3) (pv 2)) pa_nil))))) pa_nil)))))
    (pss_one (ps_ret (pv 1)))))
theorem sc_cuts_of : FnScope N_cuts_of P_cuts_of (defScope s_cuts_of) := ⟨rfl, rfl, rfl, by decide +kernel, rfl, by decide +kernel, by decide +kernel⟩
theorem ok_cuts_of (W : Wd K mg base) : Can P w K mg base 1 ("cuts_of", none) P_cuts_of (sp_cuts_of K) := by
  obtain ⟨fd, F⟩ := W.c.def_ 6 (d := d_cuts_of) rfl
  refine can_of F (F.bindsN fun _ _ _ _ _ _ us hl => match us, hl with | [_, _, _, _], _ => rfl) sc_cuts_of (fun vs H Q E h => by unfold sp_cuts_of at h; match vs, h with | [_, _, _, _], _ => rfl) (t_cuts_of K) (fun cdv A outer s H E hr => ?_) (pure_cuts_of)
  have nd := sc_cuts_of.nd
  exact (pss_cons (ps_set (i := 4) nd rfl (Or.inl rfl) (pe_disp (pps_cons (pv 1) (pe_tup (pa_consC pe_int (pa_cons (pe_lst pa_nil) pa_nil))) pps_nil) rfl rfl (by intro z; cases z) (by decide)))
    (pss_cons (ps_set (i := 5) nd rfl (Or.inl rfl) pe_non)
    (pss_cons (ps_for (passes_of rfl) rfl (pi_range1 (by rfl) (W.free 4 rfl) (pa_cons (pv 3) pa_nil)) (pg_name (i := 6) nd rfl (Or.inl rfl)) (pss_cons (ps_set (i := 7) nd rfl (Or.inl rfl) pe_dnewK)
    (pss_cons (ps_lock (ps_for (passes_of rfl) rfl (pi_keys (pv 4)) (pg_name (i := 8) nd rfl (Or.inl rfl)) (pss_one (ps_for (passes_of rfl) rfl (pi_range2 (by rfl) (W.free 4 rfl) (pa_cons (pe_opC op_add (pv 8) pe_int) (pa_cons (pe_opC op_add (pv 2) pe_int) pa_nil))) (pg_name (i := 9) nd rfl (Or.inl rfl)) (pss_one (ps_if (pt_cmpR op_lt (pe_op op_sub (pv 9) (pv 8)) (pe_op op_sub (pv 2) (pv 1)) (nomark _)) (pss_cons (ps_set (i := 10) nd rfl (Or.inl rfl) (pe_tup (pa_cons (pe_op op_add (pe_ixC ix_tup (pe_dget (hu_of hr) (pv 4) (pv 8) (fun _ _ => rfl)) pe_int (fun _ _ => rfl)) (pe_dget2 (hu_of hr) (pv 0) (pe_tup (pa_cons (pv 8) (pa_cons (pv 9) pa_nil))) pe_int ⟨rfl, rfl, rfl, rfl⟩)) (pa_cons (pe_op op_cat (pe_ixC ix_tup (pe_dget (hu_of hr) (pv 4) (pv 8) (fun _ _ => rfl)) pe_int (fun _ _ => rfl)) (pe_lst (pa_cons (pv 9) pa_nil))) pa_nil))))
    (pss_one (ps_dput (hu_of hr) (pv 7) (pv 9) (pe_callB (call_minCut (hu64 hr) rfl) (by rfl) (W.free 9 rfl) (by decide +kernel) (pa_cons (pv 10) (pa_cons (pe_dget2 (hu_of hr) (pv 7) (pv 9) (pv 10) ⟨rfl, rfl, rfl, rfl⟩) pa_nil))) rfl))) pss_nil))))))
    (pss_cons (ps_set (i := 4) nd rfl (Or.inl rfl) (pv 7))
    (pss_one (ps_if (PW.pt (pw_and (pt_cmp (pc_din (hu_of hr) (pv 2) (pv 4)) rfl) (pw_and1 (PW.pt (pw_or (pt_cmpRC op_isN1 (pv 5) pe_non (nomark _)) (pw_or1 (pt_cmpR (op_ltCut (hu64 hr)) (pe_dget (hu_of hr) (pv 4) (pv 2) (fun _ _ => rfl)) (pv 5) (nomark _)))))))) (pss_one (ps_set (i := 5) nd rfl (Or.inl rfl) (pe_dpop1 (pv 4) (pv 2) ⟨rfl, rfl, rfl, rfl⟩))) pss_nil))))))
    (pss_one (ps_ret (pv 5))))))
theorem sc_neighbours_of : FnScope N_neighbours_of P_neighbours_of (defScope s_neighbours_of) := ⟨rfl, rfl, rfl, by decide +kernel, rfl, by decide +kernel, by decide +kernel⟩
theorem ok_neighbours_of (W : Wd K mg base) : Can P w K mg base 2 ("neighbours_of", none) P_neighbours_of (sp_neighbours_of K) := by
  obtain ⟨fd, F⟩ := W.c.def_ 7 (d := d_neighbours_of) rfl
  refine can_of F (F.bindsN fun _ _ _ _ _ _ us hl => match us, hl with | [_, _], _ => rfl) sc_neighbours_of (fun vs H Q E h => by unfold sp_neighbours_of at h; match vs, h with | [_, _], _ => rfl) (t_neighbours_of K) (fun cdv A outer s H E hr => ?_) (pure_neighbours_of)
  have nd := sc_neighbours_of.nd
  exact (pss_cons (ps_set (i := 2) nd rfl (Or.inl rfl) pe_dnewT)
    (pss_cons (ps_set (i := 3) nd rfl (Or.inl rfl) pe_dnewT)
    (pss_cons (ps_for (passes_of rfl) rfl (pi_list (pe_callC (ok_stretches W) (hr.mono (by decide)) rfl (W.glo 10 rfl) (passes_call (takes_of rfl rfl rfl rfl) (fun _ _ _ _ h => h)) (pa_cons (pe_callB1 call_len_seq (by rfl) (W.free 1 rfl) (by decide +kernel) (pv 0)) pa_nil))) (pg_tup rfl (pgs_cons (pg_name (i := 4) nd rfl (Or.inl rfl)) (pgs_cons (pg_name (i := 5) nd rfl (Or.inl rfl)) pgs_nil))) (pss_cons (ps_asg (pe_callC (ok_cuts_of W) (hr.mono (by decide)) rfl (W.glo 11 rfl) (passes_call (takes_of rfl rfl rfl rfl) (fun _ _ _ _ h => h)) (pa_cons (pv 2) (pa_cons (pv 4) (pa_cons (pv 5) (pa_cons (pv 1) pa_nil))))) (pg_tup rfl (pgs_cons (pg_name (i := 6) nd rfl (Or.inl rfl)) (pgs_cons (pg_name (i := 7) nd rfl (Or.inl rfl)) pgs_nil))))
    (pss_cons (ps_dput (hu_of hr) (pv 2) (pe_tup (pa_cons (pv 4) (pa_cons (pv 5) pa_nil))) (pe_op op_add (pv 6) (pe_callB1 (cr_sum rfl) (by rfl) (W.free 12 rfl) (by decide +kernel) (pe_slice sl_list (pv 0) (po_some (pv 4)) (po_some (pv 5))))) rfl)
    (pss_one (ps_dput (hu_of hr) (pv 3) (pe_tup (pa_cons (pv 4) (pa_cons (pv 5) pa_nil))) (pv 7) rfl)))))
    (pss_one (ps_ret (pe_tup (pa_cons (pv 2) (pa_cons (pv 3) pa_nil))))))))
theorem sc_paper : FnScope N_paper P_paper (defScope s_paper) := ⟨rfl, rfl, rfl, by decide +kernel, rfl, by decide +kernel, by decide +kernel⟩
theorem ok_paper (W : Wd K mg base) : Can P w K mg base 3 ("paper", none) P_paper (sp_paper K) := by
  obtain ⟨fd, F⟩ := W.c.def_ 8 (d := d_paper) rfl
  refine can_of F (F.bindsN fun _ _ _ _ _ _ us hl => match us, hl with | [_, _], _ => rfl) sc_paper (fun vs H Q E h => by unfold sp_paper at h; match vs, h with | [_, _], _ => rfl) (t_paper K) (fun cdv A outer s H E hr => ?_) (pure_paper)
  have nd := sc_paper.nd
  exact (pss_cons (ps_expr (pe_callC (ok_need_lengths W) (hr.mono (by decide)) rfl (W.glo 13 rfl) (passes_call (takes_of rfl rfl rfl rfl) (fun _ _ _ _ h => h)) (pa_cons (pv 0) pa_nil)))
    (pss_cons (ps_expr (pe_callC (ok_need_ways W) (hr.mono (by decide)) rfl (W.glo 14 rfl) (passes_call (takes_of rfl rfl rfl rfl) (fun _ _ _ _ h => h)) (pa_cons (pv 1) pa_nil)))
    (pss_cons (ps_set (i := 2) nd rfl (Or.inr rfl) (pe_ixC ix_tup (pe_callC (ok_neighbours_of W) (hr.mono (by decide)) rfl (W.glo 15 rfl) (passes_call (takes_of rfl rfl rfl rfl) (fun _ _ _ _ h => h)) (pa_cons (pe_callTy1 call_list_of (by rfl) (W.free 0 rfl) (by decide +kernel) (pv 0)) (pa_cons (pv 1) pa_nil))) pe_int (fun _ _ => rfl)))
    (pss_one (ps_ret (pe_lc (own := [("begin", 3), ("end", 4)]) rfl nd (pi_list (pe_callB1 (cr_sortedKT rfl) (by rfl) (W.free 16 rfl) (by decide +kernel) (pv 2))) (blkOk_by (own := [("begin", 3), ("end", 4)]) (N := N_paper) (sc := defScope s_paper) (by decide +kernel)) (fun _ _ _ _ _ => (pg_tup rfl (pgs_cons (pg_name (i := 3) nd rfl (Or.inl rfl)) (pgs_cons (pg_name (i := 4) nd rfl (Or.inl rfl)) pgs_nil)))) (fun _ _ _ _ _ => pts_nil) (fun _ _ _ _ _ => (pe_tup (pa_cons (pv 3) (pa_cons (pv 4) (pa_cons (pe_dget (hu_of hr) (pv 2) (pe_tup (pa_cons (pv 3) (pa_cons (pv 4) pa_nil))) (fun _ _ => rfl)) pa_nil)))))))))))
theorem sc_law_cuts : FnScope N_law_cuts P_law_cuts (defScope s_law_cuts) := ⟨rfl, rfl, rfl, by decide +kernel, rfl, by decide +kernel, by decide +kernel⟩
theorem okr_law_cuts (W : Wd K mg base) : ∀ d, Can P w K mg base (0 + d) ("_law_cuts", none) P_law_cuts (spr_law_cuts K d) := by
  obtain ⟨fd, F⟩ := W.c.def_ 9 (d := d_law_cuts) rfl
  refine can_rec (lev := 0) F (F.bindsN fun _ _ _ _ _ _ us hl => match us, hl with | [_, _, _], _ => rfl) sc_law_cuts (len_law_cuts K) (no_law_cuts K) (t_law_cuts K) (fun d ih cdv A outer s H E hr => ?_) (fun d => pure_law_cuts d)
  have nd := sc_law_cuts.nd
  exact (pss_cons (ps_set (i := 3) nd rfl (Or.inl rfl) (pe_lst (pa_cons (pe_lst (pa_cons (pv 1) pa_nil)) pa_nil)))
    (pss_cons (ps_if (pt_cmpRC op_gt (pv 2) pe_int (nomark _)) (pss_one (ps_for (passes_of rfl) rfl (pi_range2 (by rfl) (W.free 4 rfl) (pa_cons (pe_opC op_add (pv 0) pe_int) (pa_cons (pv 1) pa_nil))) (pg_name (i := 4) nd rfl (Or.inr rfl)) (pss_one (ps_expr (pe_bm PySem.F.plainAttrs_list PySem.F.slot_list_extend PySem.F.type_list_extend mt_extend (pv 3) (pa_cons (pe_lc (own := [("_law_rest", 5)]) rfl nd (pi_list (pe_callC ih (hr.mono (by omega)) rfl (W.glo 17 rfl) (passes_call (takes_of rfl rfl rfl rfl) (fun _ _ _ _ h => h)) (pa_cons (pv 4) (pa_cons (pv 1) (pa_cons (pe_opC op_sub (pv 2) pe_int) pa_nil))))) (blkOk_by (own := [("_law_rest", 5)]) (N := N_law_cuts) (sc := defScope s_law_cuts) (by decide +kernel)) (fun _ _ _ _ _ => (pg_name (i := 5) nd rfl (Or.inl rfl))) (fun _ _ _ _ _ => pts_nil) (fun _ _ _ _ _ => (pe_op op_cat (pe_lst (pa_cons (pv 4) pa_nil)) (pv 5)))) pa_nil)))))) pss_nil)
    (pss_one (ps_ret (pv 3)))))
theorem ok_law_cuts (W : Wd K mg base) : Can P w K mg base 8 ("_law_cuts", none) P_law_cuts (sp_law_cuts K) := okr_law_cuts W 8
theorem sc_law_due : FnScope N_law_due P_law_due (defScope s_law_due) := ⟨rfl, rfl, rfl, by decide +kernel, rfl, by decide +kernel, by decide +kernel⟩
theorem ok_law_due (W : Wd K mg base) : Can P w K mg base 9 ("_law_due", none) P_law_due (sp_law_due K) := by
  obtain ⟨fd, F⟩ := W.c.def_ 10 (d := d_law_due) rfl
  refine can_of F (F.bindsN fun _ _ _ _ _ _ us hl => match us, hl with | [_, _, _], _ => rfl) sc_law_due (fun vs H Q E h => by unfold sp_law_due at h; match vs, h with | [_, _, _], _ => rfl) (t_law_due K) (fun cdv A outer s H E hr => ?_) (pure_law_due)
  have nd := sc_law_due.nd
  exact (pss_cons (ps_set (i := 3) nd rfl (Or.inl rfl) (pe_callB1 call_len_seq (by rfl) (W.free 1 rfl) (by decide +kernel) (pv 0)))
    (pss_cons (ps_set (i := 4) nd rfl (Or.inl rfl) pe_dnewT)
    (pss_cons (ps_for (passes_of rfl) rfl (pi_list (pv 2)) (pg_tup rfl (pgs_cons (pg_name (i := 5) nd rfl (Or.inl rfl)) (pgs_cons (pg_name (i := 6) nd rfl (Or.inl rfl)) (pgs_cons (pg_name (i := 7) nd rfl (Or.inl rfl)) pgs_nil)))) (pss_cons (ps_if (PW.pt (pw_or (pt_cmp (pc_din (hu_of hr) (pe_tup (pa_cons (pv 5) (pa_cons (pv 6) pa_nil))) (pv 4)) rfl) (pw_or (pt_not (pt_cmpRD op_le pe_int (pv 5) (nomark _))) (pw_or1 (pt_not (pt_chain op_le op_le (pe_opC op_add (pv 5) pe_int) (pv 6) (pv 3))))))) (pss_one (ps_ret (pe_tup (pa_consC pe_str (pa_consC pe_int pa_nil))))) pss_nil)
    (pss_one (ps_dput (hu_of hr) (pv 4) (pe_tup (pa_cons (pv 5) (pa_cons (pv 6) pa_nil))) (pv 7) rfl))))
    (pss_cons (ps_if (pt_cmpR op_ne (pe_callB1 call_len_dT (by rfl) (W.free 1 rfl) (by decide +kernel) (pv 4)) (pe_opC op_fdivW (pe_op op_mul (pv 3) (pe_opC op_sub (pv 3) pe_int)) pe_int) (nomark _)) (pss_one (ps_ret (pe_tup (pa_consC pe_str (pa_consC pe_int pa_nil))))) pss_nil)
    (pss_cons (ps_lock (ps_for (passes_of rfl) rfl (pi_keys (pv 4)) (pg_tup rfl (pgs_cons (pg_name (i := 5) nd rfl (Or.inl rfl)) (pgs_cons (pg_name (i := 6) nd rfl (Or.inl rfl)) pgs_nil))) (pss_one (ps_for (passes_of rfl) rfl (pi_list (pe_slice sl_list (pe_callC (ok_law_cuts W) (hr.mono (by decide)) rfl (W.glo 17 rfl) (passes_call (takes_of rfl rfl rfl rfl) (fun _ _ _ _ h => h)) (pa_cons (pv 5) (pa_cons (pv 6) (pa_cons (pv 1) pa_nil)))) (po_some pe_int) po_none)) (pg_name (i := 8) nd rfl (Or.inl rfl)) (pss_cons (ps_set (i := 9) nd rfl (Or.inl rfl) (pe_callB1 (cr_sum rfl) (by rfl) (W.free 12 rfl) (by decide +kernel) (pe_slice sl_list (pv 0) (po_some (pv 5)) (po_some (pv 6)))))
    (pss_cons (ps_set (i := 10) nd rfl (Or.inl rfl) (pv 5))
    (pss_cons (ps_for (passes_of rfl) rfl (pi_list (pv 8)) (pg_name (i := 11) nd rfl (Or.inl rfl)) (pss_cons (ps_set (i := 9) nd rfl (Or.inl rfl) (pe_op op_add (pv 9) (pe_dget2 (hu_of hr) (pv 4) (pe_tup (pa_cons (pv 10) (pa_cons (pv 11) pa_nil))) pe_int ⟨rfl, rfl, rfl, rfl⟩)))
    (pss_one (ps_set (i := 10) nd rfl (Or.inl rfl) (pv 11)))))
    (pss_one (ps_if (pt_cmpR op_gt (pe_dget (hu_of hr) (pv 4) (pe_tup (pa_cons (pv 5) (pa_cons (pv 6) pa_nil))) (fun _ _ => rfl)) (pv 9) (nomark _)) (pss_one (ps_ret (pe_tup (pa_consC pe_str (pa_consC pe_int pa_nil))))) pss_nil)))))))))
    (pss_one (ps_ret (pe_dget2 (hu_of hr) (pv 4) (pe_tup (pa_consC pe_int (pa_cons (pv 3) pa_nil))) pe_int ⟨rfl, rfl, rfl, rfl⟩))))))))
theorem sc_law_class : FnScope N_law_class P_law_class (defScope s_law_class) := ⟨rfl, rfl, rfl, by decide +kernel, rfl, by decide +kernel, by decide +kernel⟩
theorem warm_law_class (W : Wd K mg base) : WarmFn P w K mg base "_law_class" N_law_class (t_law_class K) := by
  obtain ⟨fd, F⟩ := W.c.def_ 11 (d := d_law_class) rfl
  refine warm_of F (F.bindsN fun _ _ _ _ _ _ us hl => match us, hl with | [_], _ => rfl) sc_law_class (W.glo 18 rfl) (fun D a d oe C hz hf cdv A outer z H => ?_)
  have nd := sc_law_class.nd
  have hp : (a, oe) ∈ [(a, oe)] := List.mem_cons_self
  exact (pss_cons (ps_set (i := 1) nd rfl (Or.inl rfl) (pe_lst (pa_cons (pe_callB (call_isP C hz hf hp) (by rfl) (W.free 20 rfl) (by decide +kernel) (pa_cons (pv 0) (pa_consC (pe_gref rfl (W.glo 19 rfl)) pa_nil))) (pa_cons (pe_callB (call_isP C hz hf hp) (by rfl) (W.free 20 rfl) (by decide +kernel) (pa_cons (pv 0) (pa_consC (pe_gref rfl (W.glo 21 rfl)) pa_nil))) (pa_cons (pe_callB (call_isP C hz hf hp) (by rfl) (W.free 20 rfl) (by decide +kernel) (pa_cons (pv 0) (pa_consC (pe_gref rfl (W.glo 22 rfl)) pa_nil))) (pa_cons (pe_callB (call_isP C hz hf hp) (by rfl) (W.free 20 rfl) (by decide +kernel) (pa_cons (pv 0) (pa_consC (pe_gref rfl (W.glo 23 rfl)) pa_nil))) pa_nil))))))
    (pss_cons (ps_set (i := 1) nd rfl (Or.inl rfl) (pe_op op_cat (pv 1) (pe_lst (pa_cons (pe_callB (call_isP C hz hf hp) (by rfl) (W.free 20 rfl) (by decide +kernel) (pa_cons (pv 0) (pa_consC (pe_gref rfl (W.glo 24 rfl)) pa_nil))) (pa_cons (pe_callB (call_isP C hz hf hp) (by rfl) (W.free 20 rfl) (by decide +kernel) (pa_cons (pv 0) (pa_consC (pe_gref rfl (W.glo 25 rfl)) pa_nil))) (pa_cons (pe_callB (call_isP C hz hf hp) (by rfl) (W.free 20 rfl) (by decide +kernel) (pa_cons (pv 0) (pa_consC (pe_gref rfl (W.glo 26 rfl)) pa_nil))) (pa_cons (pe_callB (call_isP C hz hf hp) (by rfl) (W.free 20 rfl) (by decide +kernel) (pa_cons (pv 0) (pa_consC (pe_gref rfl (W.glo 27 rfl)) pa_nil))) pa_nil)))))))
    (pss_cons (ps_set (i := 1) nd rfl (Or.inl rfl) (pe_op op_cat (pv 1) (pe_lst (pa_cons (pe_callB (call_isP C hz hf hp) (by rfl) (W.free 20 rfl) (by decide +kernel) (pa_cons (pv 0) (pa_consC (pe_gref rfl (W.glo 28 rfl)) pa_nil))) (pa_cons (pe_callB (call_isP C hz hf hp) (by rfl) (W.free 20 rfl) (by decide +kernel) (pa_cons (pv 0) (pa_consC (pe_gref rfl (W.glo 29 rfl)) pa_nil))) (pa_cons (pe_callB (call_isP C hz hf hp) (by rfl) (W.free 20 rfl) (by decide +kernel) (pa_cons (pv 0) (pa_consC (pe_gref rfl (W.glo 30 rfl)) pa_nil))) (pa_cons (pe_callB (call_isP C hz hf hp) (by rfl) (W.free 20 rfl) (by decide +kernel) (pa_cons (pv 0) (pa_consC (pe_gref rfl (W.glo 31 rfl)) pa_nil))) pa_nil)))))))
    (pss_cons (ps_set (i := 1) nd rfl (Or.inl rfl) (pe_op op_cat (pv 1) (pe_lst (pa_cons (pe_callB (call_isP C hz hf hp) (by rfl) (W.free 20 rfl) (by decide +kernel) (pa_cons (pv 0) (pa_consC (pe_gref rfl (W.glo 32 rfl)) pa_nil))) (pa_cons (pe_callB (call_isP C hz hf hp) (by rfl) (W.free 20 rfl) (by decide +kernel) (pa_cons (pv 0) (pa_consC (pe_gref rfl (W.glo 33 rfl)) pa_nil))) (pa_cons (pe_callB (call_isP C hz hf hp) (by rfl) (W.free 20 rfl) (by decide +kernel) (pa_cons (pv 0) (pa_consC (pe_gref rfl (W.glo 34 rfl)) pa_nil))) pa_nil))))))
    (pss_cons (ps_set (i := 2) nd rfl (Or.inl rfl) (pe_lst (pa_consC pe_str (pa_consC pe_str (pa_consC pe_str (pa_consC pe_str (pa_consC pe_str (pa_consC pe_str (pa_consC pe_str (pa_consC pe_str (pa_consC pe_str pa_nil)))))))))))
    (pss_cons (ps_set (i := 2) nd rfl (Or.inl rfl) (pe_op op_cat (pv 2) (pe_lst (pa_consC pe_str (pa_consC pe_str (pa_consC pe_str (pa_consC pe_str (pa_consC pe_str (pa_consC pe_str pa_nil)))))))))
    (pss_one (ps_ret (pe_ifExp (PW.pt (pw_and (pt_cmpRC op_eq (pe_bm PySem.F.plainAttrs_list PySem.F.slot_list_count PySem.F.type_list_count mt_countF (pv 1) (pa_consC pe_bl pa_nil)) pe_int (nomark _)) (pw_and1 (pt_val (pe_callB (call_isP C hz hf hp) (by rfl) (W.free 20 rfl) (by decide +kernel) (pa_cons (pv 0) (pa_consC (pe_bltn (v := .ty "ValueError") rfl (W.free 35 rfl) (by decide +kernel) rfl) pa_nil))))))) (pe_ix ix_list (pv 2) (pe_bm PySem.F.plainAttrs_list PySem.F.slot_list_index PySem.F.type_list_index mt_index (pv 1) (pa_consC pe_bl pa_nil)) (fun _ _ => rfl)) pe_str)))))))))
theorem sc_law_told : FnScope N_law_told P_law_told (defScope s_law_told) := ⟨rfl, rfl, rfl, by decide +kernel, rfl, by decide +kernel, by decide +kernel⟩
theorem told_law_told (W : Wd K mg base) : ToldFn P w K mg base "_law_told" := by
  obtain ⟨fd, F⟩ := W.c.def_ 12 (d := d_law_told) rfl
  refine told_of F (F.bindsN fun _ _ _ _ _ _ us hl => match us, hl with | [_], _ => rfl) sc_law_told rfl (Or.inl rfl) (W.glo 37 rfl) (by decide) (by decide) (fun cdv X hP hw hK hm hB hr q => ?_)
  subst hP hw hK hm hB
  have nd := sc_law_told.nd
  refine told_does (y := "_law_work") (n := "_law_e") rfl (W.glo 36 rfl) (by decide) nd rfl rfl (fun _ => rfl) (fun s H a oe cls d pn hz hf => ?_) pure_law_told
  exact (pss_cons (ps_set (i := 2) nd rfl (Or.inl rfl) (pe_warmV (k := 0) (warm_law_class W) (room_suite hr) List.mem_cons_self hz hf rfl (pv 1)))
    (pss_cons (ps_if (pt_cmpRC op_eq (pv 2) pe_str (nomark _)) (pss_one (ps_ret (pe_tup (pa_cons (pv 2) (pa_cons (pe_errF hz hf (pv 1)) pa_nil))))) pss_nil)
    (pss_one (ps_ret (pe_tup (pa_cons (pv 2) (pa_cons (pe_ifExp (pt_cmpR op_in_seq (pv 2) (pe_tup (pa_consC pe_str (pa_consC pe_str pa_nil))) (by rfl)) (pe_errF hz hf (pv 1)) pe_int) pa_nil)))))))
theorem sc_law_side : FnScope N_law_side P_law_side (defScope s_law_side) := ⟨rfl, rfl, rfl, by decide +kernel, rfl, by decide +kernel, by decide +kernel⟩
theorem ok_law_side (W : Wd K mg base) : Can P w K mg base 2 ("_law_side", none) P_law_side (sp_law_side K) := by
  obtain ⟨fd, F⟩ := W.c.def_ 13 (d := d_law_side) rfl
  refine can_of F (F.bindsN fun _ _ _ _ _ _ us hl => match us, hl with | [_, _, _], _ => rfl) sc_law_side (fun vs H Q E h => by unfold sp_law_side at h; match vs, h with | [_, _, _], _ => rfl) (t_law_side K) (fun cdv A outer s H E hr => ?_) (pure_law_side)
  have nd := sc_law_side.nd
  exact (pss_cons (ps_set (i := 3) nd rfl (Or.inl rfl) (pe_callTy1 call_list_of (by rfl) (W.free 0 rfl) (by decide +kernel) (pv 1)))
    (pss_cons (ps_while (passes_of rfl) (pt_cmpRC op_gt (pe_callB1 call_len_seq (by rfl) (W.free 1 rfl) (by decide +kernel) (pv 3)) pe_int (nomark _)) (pss_cons (ps_set (i := 4) nd rfl (Or.inl rfl) (pe_callB (call_min2 rfl) (by rfl) (W.free 9 rfl) (by decide +kernel) (pa_cons (pe_callB1 call_len_seq (by rfl) (W.free 1 rfl) (by decide +kernel) (pv 3)) (pa_cons (pe_opD op_add pe_int (pe_callC (ok_law_take W) (hr.mono (by decide)) rfl (W.glo 3 rfl) (passes_call (takes_of rfl rfl rfl rfl) (fun _ _ _ _ h => h)) (pa_cons (pv 0) (pa_cons (pe_opC op_sub (pv 2) pe_int) pa_nil)))) pa_nil))))
    (pss_cons (ps_set (i := 5) nd rfl (Or.inl rfl) (pe_callC (ok_law_take W) (hr.mono (by decide)) rfl (W.glo 3 rfl) (passes_call (takes_of rfl rfl rfl rfl) (fun _ _ _ _ h => h)) (pa_cons (pv 0) (pa_cons (pe_opC op_add (pe_op op_sub (pe_callB1 call_len_seq (by rfl) (W.free 1 rfl) (by decide +kernel) (pv 3)) (pv 4)) pe_int) pa_nil))))
    (pss_cons (ps_set (i := 6) nd rfl (Or.inl rfl) (pe_callTy1 call_tuple_of (by rfl) (W.free 38 rfl) (by decide +kernel) (pe_slice sl_list (pv 3) (po_some (pv 5)) (po_some (pe_op op_add (pv 5) (pv 4))))))
    (pss_one (ps_set (i := 3) nd rfl (Or.inl rfl) (pe_op op_cat (pe_op op_cat (pe_slice sl_list (pv 3) po_none (po_some (pv 5))) (pe_lst (pa_cons (pv 6) pa_nil))) (pe_slice sl_list (pv 3) (po_some (pe_op op_add (pv 5) (pv 4))) po_none))))))))
    (pss_one (ps_ret (pe_ixC ix_list (pv 3) pe_int (fun _ _ => rfl))))))
theorem sc_law_bent : FnScope N_law_bent P_law_bent (defScope s_law_bent) := ⟨rfl, rfl, rfl, by decide +kernel, rfl, by decide +kernel, by decide +kernel⟩
theorem ok_law_bent (W : Wd K mg base) : Can P w K mg base 2 ("_law_bent", none) P_law_bent (sp_law_bent K) := by
  obtain ⟨fd, F⟩ := W.c.def_ 14 (d := d_law_bent) rfl
  refine can_of F (F.bindsN fun _ _ _ _ _ _ us hl => match us, hl with | [_, _, _], _ => rfl) sc_law_bent (fun vs H Q E h => by unfold sp_law_bent at h; match vs, h with | [_, _, _], _ => rfl) (t_law_bent K) (fun cdv A outer s H E hr => ?_) (pure_law_bent)
  have nd := sc_law_bent.nd
  exact (pss_cons (ps_if (PW.pt (pw_or (pt_cmpR (opx_eqE (hu_of hr)) (pv 2) (pe_lst pa_nil) (nomark _)) (pw_or1 (pt_cmpRC op_eq (pe_callC (ok_law_take W) (hr.mono (by decide)) rfl (W.glo 3 rfl) (passes_call (takes_of rfl rfl rfl rfl) (fun _ _ _ _ h => h)) (pa_cons (pv 0) (pa_consC pe_int pa_nil))) pe_int (nomark _))))) (pss_one (ps_ret (pe_op op_cat (pv 2) (pe_lst (pa_cons (pe_ix ix_list (pe_lst (pa_cons (pe_tup (pa_consC pe_int (pa_consC pe_int (pa_consC pe_int pa_nil)))) (pa_cons (pe_tup (pa_consC pe_int (pa_cons (pe_opC op_add (pv 1) pe_int) (pa_consC pe_int pa_nil)))) (pa_cons (pe_tup (pa_consC (pe_unN pe_int) (pa_cons (pv 1) (pa_consC pe_int pa_nil)))) (pa_cons (pe_tup (pa_consC pe_int (pa_cons (pv 1) (pa_consC pe_int pa_nil)))) pa_nil))))) (pe_callC (ok_law_take W) (hr.mono (by decide)) rfl (W.glo 3 rfl) (passes_call (takes_of rfl rfl rfl rfl) (fun _ _ _ _ h => h)) (pa_cons (pv 0) (pa_consC pe_int pa_nil))) (fun _ _ => rfl)) pa_nil))))) pss_nil)
    (pss_cons (ps_set (i := 3) nd rfl (Or.inl rfl) (pe_callC (ok_law_take W) (hr.mono (by decide)) rfl (W.glo 3 rfl) (passes_call (takes_of rfl rfl rfl rfl) (fun _ _ _ _ h => h)) (pa_cons (pv 0) (pa_cons (pe_callB1 call_len_seq (by rfl) (W.free 1 rfl) (by decide +kernel) (pv 2)) pa_nil))))
    (pss_cons (ps_asg (pe_ix ix_list (pv 2) (pv 3) (fun _ _ => rfl)) (pg_tup rfl (pgs_cons (pg_name (i := 4) nd rfl (Or.inl rfl)) (pgs_cons (pg_name (i := 5) nd rfl (Or.inl rfl)) (pgs_cons (pg_name (i := 6) nd rfl (Or.inl rfl)) pgs_nil)))))
    (pss_cons (ps_set (i := 7) nd rfl (Or.inl rfl) (pe_ix ix_list (pe_lst (pa_consC pe_int (pa_consC pe_int (pa_cons (pe_opD op_add pe_int (pe_callC (ok_law_take W) (hr.mono (by decide)) rfl (W.glo 3 rfl) (passes_call (takes_of rfl rfl rfl rfl) (fun _ _ _ _ h => h)) (pa_cons (pv 0) (pa_consC pe_int pa_nil)))) (pa_cons (pe_opC op_pow pe_int pe_int) pa_nil))))) (pe_callC (ok_law_take W) (hr.mono (by decide)) rfl (W.glo 3 rfl) (passes_call (takes_of rfl rfl rfl rfl) (fun _ _ _ _ h => h)) (pa_cons (pv 0) (pa_consC pe_int pa_nil))) (fun _ _ => rfl)))
    (pss_cons (ps_set (i := 8) nd rfl (Or.inl rfl) (pe_callC (ok_law_take W) (hr.mono (by decide)) rfl (W.glo 3 rfl) (passes_call (takes_of rfl rfl rfl rfl) (fun _ _ _ _ h => h)) (pa_cons (pv 0) (pa_consC pe_int pa_nil))))
    (pss_cons (ps_if (pt_cmpRC op_eq (pv 8) pe_int (nomark _)) (pss_one (ps_ret (pe_lc (own := [("_law_one", 10), ("_law_other", 11), ("_law_price", 12)]) rfl nd (pi_list (pv 2)) (blkOk_by (own := [("_law_one", 10), ("_law_other", 11), ("_law_price", 12)]) (N := N_law_bent) (sc := defScope s_law_bent) (by decide +kernel)) (fun _ _ _ _ _ => (pg_tup rfl (pgs_cons (pg_name (i := 10) nd rfl (Or.inl rfl)) (pgs_cons (pg_name (i := 11) nd rfl (Or.inl rfl)) (pgs_cons (pg_name (i := 12) nd rfl (Or.inl rfl)) pgs_nil))))) (fun _ _ _ _ _ => pts_nil) (fun _ _ _ _ _ => (pe_tup (pa_cons (pv 10) (pa_cons (pv 11) (pa_cons (pe_opC op_fdivW (pv 12) pe_int) pa_nil)))))))) pss_nil)
    (pss_cons (ps_set (i := 9) nd rfl (Or.inl rfl) (pe_lst (pa_cons (pe_lst (pa_cons (pe_tup (pa_cons (pv 4) (pa_cons (pv 5) (pa_cons (pe_op op_sub (pv 6) (pv 7)) pa_nil)))) pa_nil)) (pa_cons (pe_lst (pa_cons (pe_tup (pa_cons (pv 4) (pa_cons (pv 5) (pa_cons (pe_op op_add (pv 6) (pv 7)) pa_nil)))) pa_nil)) (pa_cons (pe_lst (pa_cons (pe_tup (pa_cons (pv 4) (pa_cons (pv 5) (pa_consC pe_int pa_nil)))) pa_nil)) (pa_cons (pe_lst pa_nil) (pa_cons (pe_lst (pa_cons (pe_ix ix_list (pv 2) (pv 3) (fun _ _ => rfl)) (pa_cons (pe_ix ix_list (pv 2) (pv 3) (fun _ _ => rfl)) pa_nil))) pa_nil)))))))
    (pss_one (ps_ret (pe_op op_cat (pe_op op_cat (pe_slice sl_list (pv 2) po_none (po_some (pv 3))) (pe_ix ix_list (pv 9) (pv 8) (fun _ _ => rfl))) (pe_slice sl_list (pv 2) (po_some (pe_opC op_add (pv 3) pe_int)) po_none)))))))))))
theorem sc_bound : FnScope N_bound P_bound (defScope s_bound) := ⟨rfl, rfl, rfl, by decide +kernel, rfl, by decide +kernel, by decide +kernel⟩
theorem ok_bound (W : Wd K mg base) : Can P w K mg base 2 ("bound", none) P_bound (sp_bound K) := by
  obtain ⟨fd, F⟩ := W.c.def_ 15 (d := d_bound) rfl
  refine can_of F (F.bindsN fun _ _ _ _ _ _ us hl => match us, hl with | [_, _, _], _ => rfl) sc_bound (fun vs H Q E h => by unfold sp_bound at h; match vs, h with | [_, _, _], _ => rfl) (t_bound K) (fun cdv A outer s H E hr => ?_) (pure_bound)
  have nd := sc_bound.nd
  exact (pss_cons (ps_expr (pe_callC (ok_need_lengths W) (hr.mono (by decide)) rfl (W.glo 13 rfl) (passes_call (takes_of rfl rfl rfl rfl) (fun _ _ _ _ h => h)) (pa_cons (pv 0) pa_nil)))
    (pss_cons (ps_expr (pe_callC (ok_need_ways W) (hr.mono (by decide)) rfl (W.glo 14 rfl) (passes_call (takes_of rfl rfl rfl rfl) (fun _ _ _ _ h => h)) (pa_cons (pv 1) pa_nil)))
    (pss_cons (ps_set (i := 3) nd rfl (Or.inl rfl) (pe_callTy1 (call_dictPT (hu16 hr) rfl) (by rfl) (W.free 39 rfl) (by decide +kernel) (pe_lc (own := [("begin", 4), ("end", 5), ("number", 6)]) rfl nd (pi_list (pv 2)) (blkOk_by (own := [("begin", 4), ("end", 5), ("number", 6)]) (N := N_bound) (sc := defScope s_bound) (by decide +kernel)) (fun _ _ _ _ _ => (pg_tup rfl (pgs_cons (pg_name (i := 4) nd rfl (Or.inl rfl)) (pgs_cons (pg_name (i := 5) nd rfl (Or.inl rfl)) (pgs_cons (pg_name (i := 6) nd rfl (Or.inl rfl)) pgs_nil))))) (fun _ _ _ _ _ => pts_nil) (fun _ _ _ _ _ => (pe_tup (pa_cons (pe_tup (pa_cons (pv 4) (pa_cons (pv 5) pa_nil))) (pa_cons (pv 6) pa_nil)))))))
    (pss_cons (ps_if (PW.pt (pw_or (pt_cmpR op_ne (pe_callB1 call_len_dT (by rfl) (W.free 1 rfl) (by decide +kernel) (pv 3)) (pe_callB1 call_len_seq (by rfl) (W.free 1 rfl) (by decide +kernel) (pv 2)) (nomark _)) (pw_or1 (pt_cmpR (op_neD (hu64 hr)) (pe_callB1 (cr_sortedKT rfl) (by rfl) (W.free 16 rfl) (by decide +kernel) (pv 3)) (pe_callB1 cr_sortedPO (by rfl) (W.free 16 rfl) (by decide +kernel) (pe_callC (ok_stretches W) (hr.mono (by decide)) rfl (W.glo 10 rfl) (passes_call (takes_of rfl rfl rfl rfl) (fun _ _ _ _ h => h)) (pa_cons (pe_callB1 call_len_seq (by rfl) (W.free 1 rfl) (by decide +kernel) (pv 0)) pa_nil))) (nomark _))))) (pss_one (ps_raiseE (W.exc 40 rfl) (W.glo 27 rfl) rfl rfl (takes_of rfl rfl rfl rfl))) pss_nil)
    (pss_cons (ps_lock (ps_for (passes_of rfl) rfl (pi_keys (pv 3)) (pg_tup rfl (pgs_cons (pg_name (i := 4) nd rfl (Or.inl rfl)) (pgs_cons (pg_name (i := 5) nd rfl (Or.inl rfl)) pgs_nil))) (pss_one (ps_if (pt_cmpR op_gt (pe_dget (hu_of hr) (pv 3) (pe_tup (pa_cons (pv 4) (pa_cons (pv 5) pa_nil))) (fun _ _ => rfl)) (pe_op op_add (pe_ixC ix_tup (pe_callC (ok_cuts_of W) (hr.mono (by decide)) rfl (W.glo 11 rfl) (passes_call (takes_of rfl rfl rfl rfl) (fun _ _ _ _ h => h)) (pa_cons (pv 3) (pa_cons (pv 4) (pa_cons (pv 5) (pa_cons (pv 1) pa_nil))))) pe_int (fun _ _ => rfl)) (pe_callB1 (cr_sum rfl) (by rfl) (W.free 12 rfl) (by decide +kernel) (pe_slice sl_list (pv 0) (po_some (pv 4)) (po_some (pv 5))))) (nomark _)) (pss_one (ps_raiseE (W.exc 40 rfl) (W.glo 27 rfl) rfl rfl (takes_of rfl rfl rfl rfl))) pss_nil))))
    (pss_one (ps_ret (pe_dget2 (hu_of hr) (pv 3) (pe_tup (pa_consC pe_int (pa_cons (pe_callB1 call_len_seq (by rfl) (W.free 1 rfl) (by decide +kernel) (pv 0)) pa_nil))) pe_int ⟨rfl, rfl, rfl, rfl⟩))))))))
theorem sc_law_alike : FnScope N_law_alike P_law_alike (defScope s_law_alike) := ⟨rfl, rfl, rfl, by decide +kernel, rfl, by decide +kernel, by decide +kernel⟩
theorem okr_law_alike (W : Wd K mg base) : ∀ d, Can P w K mg base (0 + d) ("_law_alike", none) P_law_alike (spr_law_alike K d) := by
  obtain ⟨fd, F⟩ := W.c.def_ 16 (d := d_law_alike) rfl
  refine can_rec (lev := 0) F (F.bindsN fun _ _ _ _ _ _ us hl => match us, hl with | [_, _], _ => rfl) sc_law_alike (len_law_alike K) (no_law_alike K) (t_law_alike K) (fun d ih cdv A outer s H E hr => ?_) (fun d => pure_law_alike d)
  have nd := sc_law_alike.nd
  exact (pss_cons (ps_if (pt_cmpRC op_isN1 (pv 1) pe_non (nomark _)) (pss_one (ps_ret (pe_cmpRC op_isN1 (pv 0) pe_non (nomark _)))) pss_nil)
    (pss_cons (ps_if (pt_val (pe_isi (by rfl) (W.free 20 rfl) (pv 1) (pe_bltn (v := .ty "bool") rfl (W.free 41 rfl) (by decide +kernel) rfl))) (pss_one (ps_ret (pe_and (pe_isi (by rfl) (W.free 20 rfl) (pv 0) (pe_bltn (v := .ty "bool") rfl (W.free 41 rfl) (by decide +kernel) rfl)) (pe_one (pe_cmpR op_eq (pv 0) (pv 1) (nomark _)))))) pss_nil)
    (pss_cons (ps_if (pt_val (pe_isi (by rfl) (W.free 20 rfl) (pv 1) (pe_bltn (v := .ty "int") rfl (W.free 2 rfl) (by decide +kernel) rfl))) (pss_one (ps_ret (pe_and (pe_isi (by rfl) (W.free 20 rfl) (pv 0) (pe_bltn (v := .ty "int") rfl (W.free 2 rfl) (by decide +kernel) rfl)) (pe_and (pe_not (pe_isi (by rfl) (W.free 20 rfl) (pv 0) (pe_bltn (v := .ty "bool") rfl (W.free 41 rfl) (by decide +kernel) rfl))) (pe_one (pe_cmpR op_eq (pv 0) (pv 1) (nomark _))))))) pss_nil)
    (pss_cons (ps_if (pt_val (pe_isi (by rfl) (W.free 20 rfl) (pv 1) (pe_bltn (v := .ty "str") rfl (W.free 42 rfl) (by decide +kernel) rfl))) (pss_one (ps_ret (pe_and (pe_isi (by rfl) (W.free 20 rfl) (pv 0) (pe_bltn (v := .ty "str") rfl (W.free 42 rfl) (by decide +kernel) rfl)) (pe_one (pe_cmpR op_eq (pv 0) (pv 1) (nomark _)))))) pss_nil)
    (pss_cons (ps_if (PW.pt (pw_or (pt_cmpR op_ne (pe_isi (by rfl) (W.free 20 rfl) (pv 1) (pe_bltn (v := .ty "tuple") rfl (W.free 38 rfl) (by decide +kernel) rfl)) (pe_isi (by rfl) (W.free 20 rfl) (pv 0) (pe_bltn (v := .ty "tuple") rfl (W.free 38 rfl) (by decide +kernel) rfl)) (nomark _)) (pw_or1 (pt_cmpR op_ne (pe_isi (by rfl) (W.free 20 rfl) (pv 1) (pe_bltn (v := .ty "list") rfl (W.free 0 rfl) (by decide +kernel) rfl)) (pe_isi (by rfl) (W.free 20 rfl) (pv 0) (pe_bltn (v := .ty "list") rfl (W.free 0 rfl) (by decide +kernel) rfl)) (nomark _))))) (pss_one (ps_ret pe_bl)) pss_nil)
    (pss_cons (ps_if (pt_cmpR op_ne (pe_callB1 call_len_seq (by rfl) (W.free 1 rfl) (by decide +kernel) (pv 0)) (pe_callB1 call_len_seq (by rfl) (W.free 1 rfl) (by decide +kernel) (pv 1)) (nomark _)) (pss_one (ps_ret pe_bl)) pss_nil)
    (pss_cons (ps_for (passes_of rfl) rfl (pi_range1 (by rfl) (W.free 4 rfl) (pa_cons (pe_callB1 call_len_seq (by rfl) (W.free 1 rfl) (by decide +kernel) (pv 1)) pa_nil)) (pg_name (i := 2) nd rfl (Or.inl rfl)) (pss_one (ps_if (pt_not (pt_val (pe_callC ih (hr.mono (by omega)) rfl (W.glo 43 rfl) (passes_call (takes_of rfl rfl rfl rfl) (fun _ _ _ _ h => h)) (pa_cons (pe_ix ix_seq (pv 0) (pv 2) (fun _ _ => rfl)) (pa_cons (pe_ix ix_seq (pv 1) (pv 2) (fun _ _ => rfl)) pa_nil))))) (pss_one (ps_ret pe_bl)) pss_nil)))
    (pss_one (ps_ret pe_bl)))))))))
theorem ok_law_alike (W : Wd K mg base) : Can P w K mg base 45 ("_law_alike", none) P_law_alike (sp_law_alike K) := okr_law_alike W 45
theorem sc_law_in : FnScope N_law_in P_law_in (defScope s_law_in) := ⟨rfl, rfl, rfl, by decide +kernel, rfl, by decide +kernel, by decide +kernel⟩
theorem okr_law_in (W : Wd K mg base) : ∀ d, Can P w K mg base (0 + d) ("_law_in", none) P_law_in (spr_law_in K d) := by
  obtain ⟨fd, F⟩ := W.c.def_ 17 (d := d_law_in) rfl
  refine can_rec (lev := 0) F (F.bindsN fun _ _ _ _ _ _ us hl => match us, hl with | [_], _ => rfl) sc_law_in (len_law_in K) (no_law_in K) (t_law_in K) (fun d ih cdv A outer s H E hr => ?_) (fun d => pure_law_in d)
  have nd := sc_law_in.nd
  exact (pss_cons (ps_if (pt_not (pt_val (pe_isi (by rfl) (W.free 20 rfl) (pv 0) (pe_bltn (v := .ty "tuple") rfl (W.free 38 rfl) (by decide +kernel) rfl)))) (pss_one (ps_ret (pe_lst (pa_cons (pv 0) pa_nil)))) pss_nil)
    (pss_cons (ps_set (i := 1) nd rfl (Or.inl rfl) (pe_lst pa_nil))
    (pss_cons (ps_for (passes_of rfl) rfl (pi_tup (pv 0)) (pg_name (i := 2) nd rfl (Or.inl rfl)) (pss_one (ps_expr (pe_bm PySem.F.plainAttrs_list PySem.F.slot_list_extend PySem.F.type_list_extend mt_extend (pv 1) (pa_cons (pe_callC ih (hr.mono (by omega)) rfl (W.glo 44 rfl) (passes_call (takes_of rfl rfl rfl rfl) (fun _ _ _ _ h => h)) (pa_cons (pv 2) pa_nil)) pa_nil)))))
    (pss_one (ps_ret (pv 1))))))
theorem ok_law_in (W : Wd K mg base) : Can P w K mg base 42 ("_law_in", none) P_law_in (sp_law_in K) := okr_law_in W 42
theorem sc_law_cost : FnScope N_law_cost P_law_cost (defScope s_law_cost) := ⟨rfl, rfl, rfl, by decide +kernel, rfl, by decide +kernel, by decide +kernel⟩
theorem okr_law_cost (W : Wd K mg base) : ∀ d, Can P w K mg base (42 + d) ("_law_cost", none) P_law_cost (spr_law_cost K d) := by
  obtain ⟨fd, F⟩ := W.c.def_ 18 (d := d_law_cost) rfl
  refine can_rec (lev := 42) F (F.bindsN fun _ _ _ _ _ _ us hl => match us, hl with | [_, _], _ => rfl) sc_law_cost (len_law_cost K) (no_law_cost K) (t_law_cost K) (fun d ih cdv A outer s H E hr => ?_) (fun d => pure_law_cost d)
  have nd := sc_law_cost.nd
  exact (pss_cons (ps_if (pt_not (pt_val (pe_isi (by rfl) (W.free 20 rfl) (pv 1) (pe_bltn (v := .ty "tuple") rfl (W.free 38 rfl) (by decide +kernel) rfl)))) (pss_one (ps_ret pe_int)) pss_nil)
    (pss_cons (ps_set (i := 2) nd rfl (Or.inl rfl) (pe_callB1 (cr_sum rfl) (by rfl) (W.free 12 rfl) (by decide +kernel) (pe_lc (own := [("_law_part", 3)]) rfl nd (pi_tup (pv 1)) (blkOk_by (own := [("_law_part", 3)]) (N := N_law_cost) (sc := defScope s_law_cost) (by decide +kernel)) (fun _ _ _ _ _ => (pg_name (i := 3) nd rfl (Or.inl rfl))) (fun _ _ _ _ _ => pts_nil) (fun _ _ _ _ _ => (pe_callC ih (hr.mono (by omega)) rfl (W.glo 45 rfl) passL (pa_cons (pv 0) (pa_cons (pv 3) pa_nil)))))))
    (pss_one (ps_ret (pe_op op_add (pv 2) (pe_callB1 (cr_sum rfl) (by rfl) (W.free 12 rfl) (by decide +kernel) (pe_lc (own := [("_law_run", 4)]) rfl nd (pi_list (pe_callC (ok_law_in W) (hr.mono (by omega)) rfl (W.glo 44 rfl) (passes_call (takes_of rfl rfl rfl rfl) (fun _ _ _ _ h => h)) (pa_cons (pv 1) pa_nil))) (blkOk_by (own := [("_law_run", 4)]) (N := N_law_cost) (sc := defScope s_law_cost) (by decide +kernel)) (fun _ _ _ _ _ => (pg_name (i := 4) nd rfl (Or.inl rfl))) (fun _ _ _ _ _ => pts_nil) (fun _ _ _ _ _ => (pe_ix ix_list (pv 0) (pv 4) (fun _ _ => rfl))))))))))
theorem ok_law_cost (W : Wd K mg base) : Can P w K mg base 84 ("_law_cost", none) P_law_cost (sp_law_cost K) := okr_law_cost W 42
theorem sc_law : FnScope N_law P_law (defScope s_law) := ⟨rfl, rfl, rfl, by decide +kernel, rfl, by decide +kernel, by decide +kernel⟩
theorem fn_law (W : Wd K mg base) {fd : FuncData} (F : FunD K d_law.name d_law.qual d_law.params d_law.body d_law.scope [] [] (He.fAd K d_law.at_) fd) : FnOk P w K mg base (L2.CX P w) 85 (He.fAd K d_law.at_) fd P_law (sp_law K) := by
  refine fn_ofL F sc_law (fun vs H Q E h => by unfold sp_law at h; match vs, h with | [_], _ => rfl) (t_law K) (fun A outer s H E hr => ?_) (pure_law (W.err 0 rfl))
  have nd := sc_law.nd
  exact (pss_cons (ps_set (i := 1) nd rfl (Or.inr rfl) (pe_callC (ok_law_begun W) (hr.mono (by decide)) rfl (W.glo 46 rfl) (passes_call (takes_of rfl rfl rfl rfl) (fun _ _ _ _ h => h)) (pa_cons (pv 0) pa_nil)))
    (pss_cons (ps_for (passes_of rfl) rfl (pi_range1 (by rfl) (W.free 4 rfl) (pa_consC pe_int pa_nil)) (pg_name (i := 2) nd rfl (Or.inl rfl)) (pss_cons (ps_set (i := 3) nd rfl (Or.inr rfl) (pe_callC (ok_law_lengths W) (hr.mono (by decide)) rfl (W.glo 47 rfl) (passes_call (takes_of rfl rfl rfl rfl) (fun _ _ _ _ h => h)) (pa_cons (pv 1) (pa_cons (pe_ix ix_list (pe_lst (pa_consC pe_int (pa_consC pe_int (pa_consC pe_int pa_nil)))) (pe_callC (ok_law_take W) (hr.mono (by decide)) rfl (W.glo 3 rfl) (passes_call (takes_of rfl rfl rfl rfl) (fun _ _ _ _ h => h)) (pa_cons (pv 1) (pa_consC pe_int pa_nil))) (fun _ _ => rfl)) pa_nil))))
    (pss_cons (ps_set (i := 4) nd rfl (Or.inr rfl) (pe_opD op_add pe_int (pe_callC (ok_law_take W) (hr.mono (by decide)) rfl (W.glo 3 rfl) (passes_call (takes_of rfl rfl rfl rfl) (fun _ _ _ _ h => h)) (pa_cons (pv 1) (pa_consC pe_int pa_nil)))))
    (pss_cons (ps_set (i := 5) nd rfl (Or.inl rfl) (pe_callB1 call_len_seq (by rfl) (W.free 1 rfl) (by decide +kernel) (pv 3)))
    (pss_cons (ps_set (i := 6) nd rfl (Or.inl rfl) (pe_callC (ok_paper W) (hr.mono (by decide)) rfl (W.glo 48 rfl) (passes_call (takes_of rfl rfl rfl rfl) (fun _ _ _ _ h => h)) (pa_cons (pv 3) (pa_cons (pv 4) pa_nil))))
    (pss_cons (ps_set (i := 7) nd rfl (Or.inl rfl) (pe_lst pa_nil))
    (pss_cons (ps_for (passes_of rfl) rfl (pi_range1 (by rfl) (W.free 4 rfl) (pa_cons (pv 5) pa_nil)) (pg_name (i := 8) nd rfl (Or.inr rfl)) (pss_one (ps_expr (pe_bm PySem.F.plainAttrs_list PySem.F.slot_list_extend PySem.F.type_list_extend mt_extend (pv 7) (pa_cons (pe_lc (own := [("_law_other", 17)]) rfl nd (pi_range2 (by rfl) (W.free 4 rfl) (pa_cons (pe_opC op_add (pv 8) pe_int) (pa_cons (pe_opC op_add (pv 5) pe_int) pa_nil))) (blkOk_by (own := [("_law_other", 17)]) (N := N_law) (sc := defScope s_law) (by decide +kernel)) (fun _ _ _ _ _ => (pg_name (i := 17) nd rfl (Or.inl rfl))) (fun _ _ _ _ _ => pts_nil) (fun _ _ _ _ _ => (pe_tup (pa_cons (pv 8) (pa_cons (pv 17) pa_nil))))) pa_nil)))))
    (pss_cons (ps_if (pt_cmpR (op_neD (hu64 hr)) (pe_lc (own := [("_law_row", 18)]) rfl nd (pi_list (pv 6)) (blkOk_by (own := [("_law_row", 18)]) (N := N_law) (sc := defScope s_law) (by decide +kernel)) (fun _ _ _ _ _ => (pg_name (i := 18) nd rfl (Or.inl rfl))) (fun _ _ _ _ _ => pts_nil) (fun _ _ _ _ _ => (pe_slice sl_tupA (pv 18) po_none (po_some pe_int)))) (pv 7) (nomark _)) (pss_one (ps_ret pe_bl)) pss_nil)
    (pss_one (ps_for (passes_of rfl) rfl (pi_range1 (by rfl) (W.free 4 rfl) (pa_consC pe_int pa_nil)) (pg_name (i := 9) nd rfl (Or.inl rfl)) (pss_cons (ps_set (i := 10) nd rfl (Or.inr rfl) (pe_callC (ok_paper W) (hr.mono (by decide)) rfl (W.glo 48 rfl) (passes_call (takes_of rfl rfl rfl rfl) (fun _ _ _ _ h => h)) (pa_cons (pv 3) (pa_cons (pv 4) pa_nil))))
    (pss_cons (ps_setLc (i := 11) (own := [("_law_row", 18)]) rfl nd rfl rfl (sw_true rfl rfl rfl (by decide +kernel)) (pi_list (pv 6)) (blkOk_by (own := [("_law_row", 18)]) (N := N_law) (sc := defScope s_law) (by decide +kernel)) (fun _ _ _ _ _ => (pg_name (i := 18) nd rfl (Or.inl rfl))) (fun _ _ _ _ _ => pts_nil) (fun _ _ _ _ _ => (pe_bm PySem.F.plainAttrs_list PySem.F.slot_list_pop PySem.F.type_list_pop mt_popAt (pv 10) (pa_cons (pe_callC (ok_law_take W) (hr.mono (by decide)) rfl (W.glo 3 rfl) passL (pa_cons (pv 1) (pa_cons (pe_callB1 call_len_seq (by rfl) (W.free 1 rfl) (by decide +kernel) (pv 10)) pa_nil))) pa_nil))))
    (pss_cons (ps_for (passes_of rfl) rfl (pi_range1 (by rfl) (W.free 4 rfl) (pa_cons (pe_callC (ok_law_take W) (hr.mono (by decide)) rfl (W.glo 3 rfl) (passes_call (takes_of rfl rfl rfl rfl) (fun _ _ _ _ h => h)) (pa_cons (pv 1) (pa_consC pe_int pa_nil))) pa_nil)) (pg_name (i := 12) nd rfl (Or.inl rfl)) (pss_one (ps_set (i := 11) nd rfl (Or.inl rfl) (pe_callC (ok_law_bent W) (hr.mono (by decide)) rfl (W.glo 49 rfl) (passes_call (takes_of rfl rfl rfl rfl) (fun _ _ _ _ h => h)) (pa_cons (pv 1) (pa_cons (pv 5) (pa_cons (pv 11) pa_nil)))))))
    (pss_cons (ps_set (i := 13) nd rfl (Or.inr rfl) (pe_callTy1 call_list_of (by rfl) (W.free 0 rfl) (by decide +kernel) (pv 11)))
    (pss_cons (ps_set (i := 14) nd rfl (Or.inl rfl) (pe_callC (ok_law_due W) (hr.mono (by decide)) rfl (W.glo 50 rfl) (passes_call (takes_of rfl rfl rfl rfl) (fun _ _ _ _ h => h)) (pa_cons (pv 3) (pa_cons (pv 4) (pa_cons (pv 11) pa_nil)))))
    (pss_cons (ps_set (i := 15) nd rfl (Or.inl rfl) (pe_told (T := Lms_k10) (p0 := ("law", none)) (k := 2) (told_law_told W) W.tab (List.mem_cons_self) rfl rfl (hr.mono (by decide)) (by show lamSB (defScope s_law) _ = true; decide +kernel) rfl (fun _ _ _ _ _ => rfl) (fun _ _ _ _ E _ _ hr => (pe_callC (ok_bound W) (hr.mono (by decide)) rfl (W.glo 51 rfl) (passes_call (takes_of rfl rfl rfl rfl) (fun _ _ _ _ h => h)) (pa_cons (pv 3) (pa_cons (pv 4) (pa_cons (pv 13) pa_nil)))))))
    (pss_cons (ps_if (PW.pt (pw_or (pt_not (pt_val (pe_callC (ok_law_alike W) (hr.mono (by decide)) rfl (W.glo 43 rfl) (passes_call (takes_of rfl rfl rfl rfl) (fun _ _ _ _ h => h)) (pa_cons (pv 15) (pa_cons (pv 14) pa_nil))))) (pw_or1 (pt_cmpR (op_neD (hu64 hr)) (pv 13) (pv 11) (nomark _))))) (pss_one (ps_ret pe_bl)) pss_nil)
    (pss_cons (ps_set (i := 16) nd rfl (Or.inl rfl) (pe_callC (ok_law_side W) (hr.mono (by decide)) rfl (W.glo 52 rfl) (passes_call (takes_of rfl rfl rfl rfl) (fun _ _ _ _ h => h)) (pa_cons (pv 1) (pa_cons (pe_listRg rfl rfl (W.free 0 rfl) (prg_1 rfl (W.free 4 rfl) (pv 5))) (pa_cons (pv 4) pa_nil)))))
    (pss_one (ps_if (PW.pt (pw_and (pt_val (pe_isi (by rfl) (W.free 20 rfl) (pv 15) (pe_bltn (v := .ty "int") rfl (W.free 2 rfl) (by decide +kernel) rfl))) (pw_and1 (pt_cmpR op_gt (pv 15) (pe_callC (ok_law_cost W) (hr.mono (by decide)) rfl (W.glo 45 rfl) (passes_call (takes_of rfl rfl rfl rfl) (fun _ _ _ _ h => h)) (pa_cons (pv 3) (pa_cons (pv 16) pa_nil))) (nomark _))))) (pss_one (ps_ret pe_bl)) pss_nil))))))))))))))))))))
    (pss_one (ps_ret pe_bl))))
end
end Lw
namespace Lw
open PySem PySem.Spec PyProof.Rows L2 Rs
/-- a promise that holds whatever may be raised: nothing is -/
theorem calm {P : Program} {w : World} {K : PySem.W.Frag} {mg : Str → Option Value} {base : Heap} {k : Nat} {f : Addr} {fd : FuncData} {ps : List Str} {sp : Sp} (F : FnOk P w K mg base (L2.CX P w) k f fd ps sp) (hE : ∀ vs H Q E, sp vs H Q E → sp vs H Q E0) : FnOk P w K mg base CX0 k f fd ps sp :=
  ⟨F.len, fun A outer s H args us vs Q E hr he hb hv hs => codeAny_mono (F.run A outer s H args us vs Q E0 hr he hb hv (hE _ _ _ _ hs)) fun r s' h => by
    cases r with
    | error e =>
      obtain ⟨_, _, _, _, _, _, _, _, _, _, _, _, hf⟩ := h
      exact hf.elim
    | ok fl => cases fl <;> exact h⟩
end Lw
open PySem PySem.W PySem.Calls PyProof.Rows
theorem PySem.Challenge.cw_runsorts_k10_papers_judged_holds : PySem.Challenge.rw_runsorts_k10_papers_judged.Holds := by
  w_on; o_law
  refine HandSHeadRun.head_any (r := OpenLaw.row PySem.Challenge.rw_runsorts_k10_papers_judged) (q := view (OpenLaw.row PySem.Challenge.rw_runsorts_k10_papers_judged).prog [45]) (H := Lw.hk) (ob := Lw.ob) (M := 15000) (loose := Lw.loose) (d := HandSHeadRun.topDef (OpenLaw.row PySem.Challenge.rw_runsorts_k10_papers_judged).prog 45) (kwd := []) Lw.ob_eq
    (by kernel_rfl) (fun s => by kernel_rfl) Lw.run (by kernel_rfl) (by kernel_rfl) (by kernel_rfl) (by rfl) (by first | assumption | decide +kernel) (by decide +kernel) ⟨rfl, rfl, rfl, rfl, rfl, by decide +kernel⟩ ?hw ?hc
  case hw => w_witness2
  case hc =>
    refine LamX.walk_ofTsE (l := PySem.Challenge.rw_runsorts_k10_papers_judged) (n := 63) (k := 85) (x := "_law_script") (CX := fun _ => L2.CX0) rfl (by decide) (by kernel_rfl) ⟨rfl, by decide, by decide⟩ ?F (fun _ _ _ _ _ z => z)
    intro w mg fa h Y G hmg0
    obtain ⟨K, KX, c⟩ := Y
    have hmg : mg ("law" : PySem.Str) = some (.ref fa) := by
      have e : (HandSHeadRun.topDef (OpenLaw.row PySem.Challenge.rw_runsorts_k10_papers_judged).prog 45).name = ("law" : PySem.Str) := by kernel_rfl
      rw [← e]
      exact hmg0
    obtain ⟨fd, F⟩ := c.m.def_ 19 (d := Lw.d_law) rfl
    have e := hmg.symm.trans (He.glo_ok KX G (Lw.says_fact c.m 53 (f := .glo "law") rfl))
    cases e
    have b := L2.FunD.bindsA (ps := ["_law_script"]) F fun _ _ _ _ _ _ us hl => match us, hl with | [_], _ => rfl
    refine ⟨K, KX, fd, Lw.tf.map fun p => He.cT K p, Rs.sp_law K, ?_, ?_, ?_, fun s v => b s [v] rfl, fun H a ns hl _ hT hS => ⟨a, ns, rfl, hS, hl, ?_, fun _ => rfl⟩, fun base _ _ TB => Lw.calm (Lw.fn_law ⟨c.m, ⟨h, KX, G⟩, ⟨?_, Lw.nodup_tabs c.m⟩⟩ F) fun vs H Q E h => h⟩
    · intro p hp
      obtain ⟨q, hq, rfl⟩ := List.mem_map.mp hp
      exact c.empty q hq
    · intro p hp
      obtain ⟨q, hq, rfl⟩ := List.mem_map.mp hp
      exact c.out q hq
    · intro p hp
      obtain ⟨q, hq, rfl⟩ := List.mem_map.mp hp
      exact PySem.W.codeHd_of_K KX (c.hd q hq)
    · exact Lw.tabs_start H fun q hq => hT _ (List.mem_map.mpr ⟨q, hq, rfl⟩)
    · intro p hp
      exact TB _ (List.mem_map.mpr ⟨p.1, Lw.lms_tf p hp, rfl⟩)
