import PyProof.Rows.All
import Wide.All
import OpenK.AllK
import Wide.FinOn
import KE.KStateDown
import Lean
import HandS.ForMost
import HandS.ForExc
import HandS.Flow
import HandS.Wide
import HandS.TupAny
import HandS.Zip
import HandS.IsInst
import HandS.Steps
import HandS.More
import HandS.Conv
import HandS.Deep
import HandS.Walk
import HandS.Defaults
import HandS.Head0
import HandS.Head1
import HandS.Head2
import HandS.HeadEnd
import HandS.HeadHook1
import HandS.HeadHook2
import HandS.Exc
import HandS.ExcOwn
import HandS.TryOnly
import HandS.Style
import HandS.Lambda
import HandS.HotCalls
import HandS.ExcIs
import HandS.ExcField
import HandS.HeadHook3
import HandS.HeadHook4
import HandS.EndTab
import HandS.HeadWalk
import HandS.Comp
import HandS.Call
import HandS.SortRule
import HandS.SortInts
import HandS.Dict
import HandS.DictTup
import HandS.TupLen
import KE.KTupSum
import KE.KDictPairs
import HandS.Codes
import KE.LtData
import HandS.Ends
import HandS.Words
import HandS.WordsExc
import PySem.Challenge.RW_runsorts_k11_disks
set_option Elab.async false
set_option linter.all false
set_option maxRecDepth 100000
set_option maxHeartbeats 4000000
/-! the head: facts by names, told over the objects that the module's names reach -/
namespace Hx
open PySem PySem.Spec PyProof.Rows L2
def obj1 (g : Addr → Option Obj) (v : Value) : List Addr := match v with
  | .ref b => (match g b with
    | some ⟨_, _, .func fd, _⟩ => b :: (He.refV fd.code ++ He.refV fd.defaults)
    | _ => [b])
  | _ => []
def obj2 (g : Addr → Option Obj) (v : Value) : List Addr := match v with
  | .ref b => (match g b with
    | some ⟨_, _, .func fd, _⟩ => b :: (He.refV fd.code ++ He.refV fd.defaults)
    | some ⟨_, _, .cls cd, _⟩ => b :: cd.ns :: (match g cd.ns with
      | some ⟨_, _, .dict es _, _⟩ => es.toList.flatMap fun e => obj1 g e.val
      | _ => [])
    | _ => [b])
  | _ => []
def asX (g : Addr → Option Obj) : List Addr := mainGlobals :: (match g mainGlobals with
  | some ⟨_, _, .dict es _, _⟩ => es.toList.flatMap fun e => obj2 g e.val
  | _ => [])
abbrev Fs : Type := List (PySem.W.Frag → Bool)
def obsM (fs : Fs) (fn : List He.DefD) (K : PySem.W.Frag) : He.AlD := ((fs.all fun f => f K) && fn.all fun d => d.ok K, fn.map fun d => He.fnW K d.at_)
def SaysM (fs : Fs) (fn : List He.DefD) (K : PySem.W.Frag) : Prop := obsM fs fn K = He.valD fn
def obsMG (fs : Fs) (fn : List He.DefD) (g : Addr → Option Obj) : He.AlD := obsM fs fn (He.frG g (asX g))
def hookM (fs : Fs) (fn : List He.DefD) : PySem.W.Hook where
  α := He.AlD
  obs := fun s => obsMG fs fn s.heap.get?
  val := fun _ => He.valD fn
  says := fun _ h => ∃ K : PySem.W.Frag, K.In h ∧ SaysM fs fn K
  of := fun _ _ e => ⟨_, He.frG_in, e⟩
  keeps := fun _ _ _ ⟨K, hK, c⟩ k => ⟨K, PySem.W.Frag.In.keeps hK k, c⟩
theorem obsMG_eq {fs : Fs} {fn : List He.DefD} {g : Addr → Option Obj} {s : Shared} (h : ∀ a, g a = s.heap.get? a) : obsMG fs fn g = (hookM fs fn).obs s := by
  have e : g = s.heap.get? := funext h
  rw [e] <;> rfl
section
variable {fs : Fs} {fn : List He.DefD} {K : PySem.W.Frag}
theorem SaysM.fact (c : SaysM fs fn K) (i : Nat) {f : PySem.W.Frag → Bool} (h : fs[i]? = some f := by rfl) : f K = true := by
  have c1 := (He.ba (show ((fs.all fun f => f K) && fn.all fun d => d.ok K) = true from congrArg (fun z : He.AlD => z.1) c)).1
  exact List.all_eq_true.mp c1 f (List.mem_of_getElem? h)
theorem SaysM.def_ (c : SaysM fs fn K) (i : Nat) {d : He.DefD} (h : fn[i]? = some d := by rfl) : ∃ fd, FunD K d.name d.qual d.params d.body d.scope (d.dvs K) (d.kws K) (He.fAd K d.at_) fd := by
  have c2 := (He.ba (show ((fs.all fun f => f K) && fn.all fun d => d.ok K) = true from congrArg (fun z : He.AlD => z.1) c)).2
  have e : fn.map (fun d => He.fnW K d.at_) = fn.map He.DefD.val := congrArg (fun z : He.AlD => z.2) c
  have e2 : (fn.map fun d => He.fnW K d.at_)[i]? = (fn.map He.DefD.val)[i]? := by rw [e]
  rw [List.getElem?_map, List.getElem?_map, h] at e2
  exact He.DefD.funD (Option.some.inj e2) (List.all_eq_true.mp c2 d (List.mem_of_getElem? h))
end
end Hx

/-! the same, the tables of the defs that make lambdas told beside -/
namespace Hx
open PySem PySem.Spec PyProof.Rows L2
structure SaysMT (fs : Fs) (fn : List He.DefD) (tf : List He.Defn) (h : Heap) (K : PySem.W.Frag) : Prop where
  m : SaysM fs fn K
  hd : ∀ p ∈ tf, PySem.W.codeHdIn K (He.cT K p).1 (He.cT K p).2 = true
  out : ∀ p ∈ tf, K.lookup (He.cT K p).2 = none
  empty : ∀ p ∈ tf, h.get? (He.cT K p).2 = some { cls := .none, data := .fields #[] }
def obsMT (fs : Fs) (fn : List He.DefD) (tf : List He.Defn) (g : Addr → Option Obj) : He.AlD × Bool := (obsM fs fn (He.frT g (asX g)), He.tabsB g tf (He.frT g (asX g)))
theorem saysMT_of {fs : Fs} {fn : List He.DefD} {tf : List He.Defn} {h : Heap} (e : obsMT fs fn tf h.get? = (He.valD fn, true)) : SaysMT fs fn tf h (He.frT h.get? (asX h.get?)) := by
  have e1 : obsM fs fn (He.frT h.get? (asX h.get?)) = He.valD fn := congrArg (fun z : He.AlD × Bool => z.1) e
  have e2 : He.tabsB h.get? tf (He.frT h.get? (asX h.get?)) = true := congrArg (fun z : He.AlD × Bool => z.2) e
  have at_ : ∀ p ∈ tf, PySem.W.codeHdIn (He.frT h.get? (asX h.get?)) (He.cT (He.frT h.get? (asX h.get?)) p).1 (He.cT (He.frT h.get? (asX h.get?)) p).2 = true ∧ ∃ o, h.get? (He.cT (He.frT h.get? (asX h.get?)) p).2 = some o ∧ He.emptyTab o = true := fun p hp => by
    obtain ⟨g1, g2⟩ := He.ba (List.all_eq_true.mp e2 p hp)
    refine ⟨g1, ?_⟩
    revert g2
    cases h.get? (He.cT (He.frT h.get? (asX h.get?)) p).2 with
    | none => exact fun z => (nomatch z)
    | some o => exact fun z => ⟨o, rfl, z⟩
  exact ⟨e1, fun p hp => (at_ p hp).1, fun p hp => (at_ p hp).2.elim fun o z => He.frT_none z.1 z.2, fun p hp => (at_ p hp).2.elim fun o z => by rw [z.1, He.emptyTab_eq z.2]⟩
def hookMT (fs : Fs) (fn : List He.DefD) (tf : List He.Defn) : PySem.W.Hook where
  α := He.AlD × Bool
  obs := fun s => obsMT fs fn tf s.heap.get?
  val := fun _ => (He.valD fn, true)
  says := fun _ h => ∃ K : PySem.W.Frag, K.In h ∧ SaysMT fs fn tf h K
  of := fun _ _ e => ⟨_, He.frT_in, saysMT_of e⟩
  keeps := fun _ _ _ ⟨K, hK, c⟩ k => ⟨K, PySem.W.Frag.In.keeps hK k, ⟨c.m, c.hd, c.out, fun p hp => k _ _ (c.empty p hp)⟩⟩
theorem obsMT_eq {fs : Fs} {fn : List He.DefD} {tf : List He.Defn} {g : Addr → Option Obj} {s : Shared} (h : ∀ a, g a = s.heap.get? a) : obsMT fs fn tf g = (hookMT fs fn tf).obs s := by
  have e : g = s.heap.get? := funext h
  rw [e] <;> rfl
end Hx

namespace Rs
open PySem PySem.Spec PyProof.Rows L2
def errNames : List Str := ["BadKinds", "BadOrder", "BadRows", "BadRuns", "BadRoom", "BadLengths", "BadPlan", "BadPaper", "BadCount", "BadBlock", "Stopped", "Shut", "NotYet", "Empty", "BadText"]
def excCB (K : PySem.W.Frag) (D : Addr) : Bool :=
  decide (PySem.W.findIn K (.ref D) "__getattribute__" = some (some (.builtin "BaseException.__getattribute__"))) && (decide (PySem.W.findIn K (.ref D) "__getattr__" = some none) && (decide (PySem.W.subIn K (.ref D) (.type "BaseException") = some true) && (PySem.W.hasDictIn K D &&
    (decide (PySem.W.findIn K (.ref D) "__class__" = some (some (.builtin "object.__class__"))) && (decide (PySem.W.specialIn K (.builtin "object.__class__") "__get__" = some (some (.builtin "getset_descriptor.__get__"))) && (decide (PySem.W.takesIn K (.builtin "object.__class__") = some true) && decide (PySem.W.mroIn K D (.type "object") = some true)))))))
def errB (x : Str) (K : PySem.W.Frag) : Bool :=
  decide (x ∈ errNames) && (excCB K (He.ga K x) && ((errNames.all fun y => decide (PySem.W.kitOne K (.ref (He.ga K x)) (.ref (He.ga K y)) = some (decide (x = y)))) && (decide (PySem.W.kitOne K (.ref (He.ga K x)) (.type "ValueError") = some true) && decide (PySem.W.exmOne K (.ref (He.ga K x)) (.ref (He.ga K "SortError")) = some true))))
end Rs
namespace Lw
open PySem PySem.Spec PyProof.Rows L2 Rs LamX
/-! ### the text by places -/
def top (i : Nat) : Stmt := PySem.Challenge.pw_runsorts_k11_disks.main.body.getD i (.Pass ⟨0, 0, 0, 0⟩)
abbrev s_law_begun : Stmt := top 23
def d_law_begun : He.DefD := ⟨("_law_begun", none), "_law_begun", "_law_begun", defArgs s_law_begun, defBody s_law_begun, defScope s_law_begun, [], []⟩
abbrev s_law_take : Stmt := top 24
def d_law_take : He.DefD := ⟨("_law_take", none), "_law_take", "_law_take", defArgs s_law_take, defBody s_law_take, defScope s_law_take, [], []⟩
abbrev s_Disk___init__ : Stmt := inClass (top 21) 0
def d_Disk___init__ : He.DefD := ⟨("Disk", some "__init__"), "__init__", "Disk.__init__", defArgs s_Disk___init__, defBody s_Disk___init__, defScope s_Disk___init__, [], []⟩
abbrev s_law_made : Stmt := top 32
def d_law_made : He.DefD := ⟨("_law_made", none), "_law_made", "_law_made", defArgs s_law_made, defBody s_law_made, defScope s_law_made, [], []⟩
abbrev s_law_nest : Stmt := top 29
def d_law_nest : He.DefD := ⟨("_law_nest", none), "_law_nest", "_law_nest", defArgs s_law_nest, defBody s_law_nest, defScope s_law_nest, [], []⟩
abbrev s_law_what : Stmt := top 30
def d_law_what : He.DefD := ⟨("_law_what", none), "_law_what", "_law_what", defArgs s_law_what, defBody s_law_what, defScope s_law_what, [], []⟩
abbrev s_law_alike : Stmt := top 25
def d_law_alike : He.DefD := ⟨("_law_alike", none), "_law_alike", "_law_alike", defArgs s_law_alike, defBody s_law_alike, defScope s_law_alike, [], []⟩
abbrev s_law_class : Stmt := top 26
def d_law_class : He.DefD := ⟨("_law_class", none), "_law_class", "_law_class", defArgs s_law_class, defBody s_law_class, defScope s_law_class, [], []⟩
abbrev s_law_told : Stmt := top 27
def d_law_told : He.DefD := ⟨("_law_told", none), "_law_told", "_law_told", defArgs s_law_told, defBody s_law_told, defScope s_law_told, [], []⟩
abbrev s_law_weight : Stmt := top 31
def d_law_weight : He.DefD := ⟨("_law_weight", none), "_law_weight", "_law_weight", defArgs s_law_weight, defBody s_law_weight, defScope s_law_weight, [], []⟩
abbrev s_law_fall : Stmt := top 33
def d_law_fall : He.DefD := ⟨("_law_fall", none), "_law_fall", "_law_fall", defArgs s_law_fall, defBody s_law_fall, defScope s_law_fall, [], []⟩
abbrev s_law_count : Stmt := top 34
def d_law_count : He.DefD := ⟨("_law_count", none), "_law_count", "_law_count", defArgs s_law_count, defBody s_law_count, defScope s_law_count, [], []⟩
abbrev s_Disk_need_block : Stmt := inClass (top 21) 1
def d_Disk_need_block : He.DefD := ⟨("Disk", some "need_block"), "need_block", "Disk.need_block", defArgs s_Disk_need_block, defBody s_Disk_need_block, defScope s_Disk_need_block, [], []⟩
abbrev s_Disk_stop : Stmt := inClass (top 21) 7
def d_Disk_stop : He.DefD := ⟨("Disk", some "stop"), "stop", "Disk.stop", defArgs s_Disk_stop, defBody s_Disk_stop, defScope s_Disk_stop, [], []⟩
abbrev s_Disk_deed : Stmt := inClass (top 21) 2
def d_Disk_deed : He.DefD := ⟨("Disk", some "deed"), "deed", "Disk.deed", defArgs s_Disk_deed, defBody s_Disk_deed, defScope s_Disk_deed, [], []⟩
abbrev s_weight_of : Stmt := top 20
def d_weight_of : He.DefD := ⟨("weight_of", none), "weight_of", "weight_of", defArgs s_weight_of, defBody s_weight_of, defScope s_weight_of, [], []⟩
abbrev s_Disk_write : Stmt := inClass (top 21) 3
def d_Disk_write : He.DefD := ⟨("Disk", some "write"), "write", "Disk.write", defArgs s_Disk_write, defBody s_Disk_write, defScope s_Disk_write, [], []⟩
abbrev s_law_write : Stmt := top 35
def d_law_write : He.DefD := ⟨("_law_write", none), "_law_write", "_law_write", defArgs s_law_write, defBody s_law_write, defScope s_law_write, [], []⟩
abbrev s_Disk_arm : Stmt := inClass (top 21) 6
def d_Disk_arm : He.DefD := ⟨("Disk", some "arm"), "arm", "Disk.arm", defArgs s_Disk_arm, defBody s_Disk_arm, defScope s_Disk_arm, [], []⟩
abbrev s_Disk_again : Stmt := inClass (top 21) 8
def d_Disk_again : He.DefD := ⟨("Disk", some "again"), "again", "Disk.again", defArgs s_Disk_again, defBody s_Disk_again, defScope s_Disk_again, [], []⟩
abbrev s_law_arms : Stmt := top 36
def d_law_arms : He.DefD := ⟨("_law_arms", none), "_law_arms", "_law_arms", defArgs s_law_arms, defBody s_law_arms, defScope s_law_arms, [], []⟩
abbrev s_Disk_blocks : Stmt := inClass (top 21) 9
def d_Disk_blocks : He.DefD := ⟨("Disk", some "blocks"), "blocks", "Disk.blocks", defArgs s_Disk_blocks, defBody s_Disk_blocks, defScope s_Disk_blocks, [], []⟩
abbrev s_Disk_read : Stmt := inClass (top 21) 5
def d_Disk_read : He.DefD := ⟨("Disk", some "read"), "read", "Disk.read", defArgs s_Disk_read, defBody s_Disk_read, defScope s_Disk_read, [], []⟩
abbrev s_law_is : Stmt := top 37
def d_law_is : He.DefD := ⟨("_law_is", none), "_law_is", "_law_is", defArgs s_law_is, defBody s_law_is, defScope s_law_is, [], []⟩
abbrev s_Disk_settle : Stmt := inClass (top 21) 4
def d_Disk_settle : He.DefD := ⟨("Disk", some "settle"), "settle", "Disk.settle", defArgs s_Disk_settle, defBody s_Disk_settle, defScope s_Disk_settle, [], []⟩
abbrev s_law : Stmt := top 38
def d_law : He.DefD := ⟨("law", none), "law", "law", defArgs s_law, defBody s_law, defScope s_law, [], []⟩
def fn : List He.DefD := [d_law_begun, d_law_take, d_Disk___init__, d_law_made, d_law_nest, d_law_what, d_law_alike, d_law_class, d_law_told, d_law_weight, d_law_fall, d_law_count, d_Disk_need_block, d_Disk_stop, d_Disk_deed, d_weight_of, d_Disk_write, d_law_write, d_Disk_arm, d_Disk_again, d_law_arms, d_Disk_blocks, d_Disk_read, d_law_is, d_Disk_settle, d_law]
def fa : List He.Fa := [.free "list",
  .free "len",
  .free "int",
  .int "BLOCKS" 600,
  .glo "_law_take",
  .free "tuple",
  .glo "_law_nest",
  .free "range",
  .free "isinstance",
  .free "bool",
  .free "str",
  .glo "_law_alike",
  .glo "_law_class",
  .glo "BadKinds",
  .glo "BadOrder",
  .glo "BadRows",
  .glo "BadRuns",
  .glo "BadRoom",
  .glo "BadLengths",
  .glo "BadPlan",
  .glo "BadPaper",
  .glo "BadCount",
  .glo "BadBlock",
  .glo "Stopped",
  .glo "Shut",
  .glo "NotYet",
  .glo "Empty",
  .glo "BadText",
  .free "ValueError",
  .glo "SortError",
  .glo "_law_told",
  .glo "_law_weight",
  .free "sum",
  .glo "_law_fall",
  .exc "BadBlock",
  .free "zip",
  .meth "Disk" "stop",
  .cls "Disk",
  .exc "Stopped",
  .glo "weight_of",
  .meth "Disk" "need_block",
  .int "MOST_WEIGHT" 40,
  .meth "Disk" "deed",
  .glo "_law_what",
  .glo "_law_count",
  .meth "Disk" "write",
  .free "max",
  .meth "Disk" "arm",
  .meth "Disk" "again",
  .free "reversed",
  .meth "Disk" "blocks",
  .meth "Disk" "read",
  .glo "_law_begun",
  .mkr "Disk",
  .glo "Disk",
  .glo "_law_made",
  .glo "_law_write",
  .meth "Disk" "settle",
  .glo "_law_arms",
  .glo "_law_is",
  .glo "law",
  .noat "Disk" "settled",
  .noat "Disk" "waiting",
  .noat "Disk" "left",
  .noat "Disk" "picks",
  .noat "Disk" "is_down"]
def tf : List He.Defn := [("_law_write", none), ("_law_is", none), ("law", none)]
def fe : List Str := ["BadBlock", "Stopped"]
def fs : Hx.Fs := (fun K => decide ((tf.map fun p => (He.cT K p).2).Nodup)) :: (fe.map (fun x K => Rs.errB x K) ++ fa.map fun f K => f.ok K)
/-! ### the head -/
def loose : List PySem.Str := (["__name__", "SortError", "BadKinds", "BadOrder", "BadRows", "BadRuns", "BadRoom", "BadLengths", "BadPlan", "BadPaper", "BadCount", "BadBlock", "Stopped", "Shut", "NotYet", "Empty", "BadText", "BLOCKS", "MOST_WEIGHT", "weight_of", "Disk", "_law_begun", "_law_take", "_law_alike", "_law_class", "_law_told", "_law_all", "_law_nest", "_law_what", "_law_weight"] : List PySem.Str) ++ (["_law_made", "_law_fall", "_law_count", "_law_write", "_law_arms", "_law_is"] : List PySem.Str)
abbrev R : PySem.W.OpenRow := PySem.W.OpenLaw.row PySem.Challenge.rw_runsorts_k11_disks
abbrev hk : PySem.W.Hook := Hx.hookMT fs fn tf
def ob (s : PySem.W.SharedT) : He.AlD × Bool := Hx.obsMT fs fn tf (HandSHeadRun.getT s)
theorem ob_eq (s : PySem.W.SharedT) : ob s = hk.obs s.abs := Hx.obsMT_eq (HandSHeadRun.getT_eq s)
theorem run (w : World) : HandSHeadRun.RunEq R (PySem.W.view R.prog [38]) hk ob 15000 loose w := by
  intro os
  kernel_rfl
end Lw
namespace Rs
open PySem PySem.Spec PyProof.Rows L2

abbrev xAdd : R2 := rI0 fun i j => .int (i + j)
abbrev xSub : R2 := rI0 fun i j => .int (i - j)
abbrev xMul : R2 := rI CMul fun i j => .int (i * j)
abbrev xDiv : R2 := rI CDivW fun i j => .int (i / j)
abbrev xMod : R2 := rI (fun _ j => 0 < j) fun i j => .int (i % j)
abbrev xPow : R2 := rI CPow fun i j => .int (i ^ j.toNat)
abbrev xLt : R2 := rI0 fun i j => .bl (decide (i < j))
abbrev xLe : R2 := rI0 fun i j => .bl (decide (i ≤ j))
abbrev xGt : R2 := rI0 fun i j => .bl (decide (j < i))
abbrev xLen (K : PySem.W.Frag) : List V → Hp → VK → Prop := fun xs H Q => ∃ p ys, xs = [.ref p] ∧ (SqL K H p ys ∨ SqT K H p ys) ∧ Q (.int ys.length) H
abbrev xInt : List V → Hp → VK → Prop := fun xs H Q => (∃ i, xs = [.int i] ∧ Q (.int i) H) ∨ ∃ k, xs = [.bl k] ∧ Q (.int (if k then 1 else 0)) H
abbrev xList (K : PySem.W.Frag) : List V → Hp → VK → Prop := fun xs H Q => ∃ p ys, xs = [.ref p] ∧ (SqL K H p ys ∨ SqT K H p ys) ∧ ∀ l, H l = none → Q (.ref l) (upd H l (.lst ys))
abbrev xTuple (K : PySem.W.Frag) : List V → Hp → VK → Prop := fun xs H Q => ∃ p ys, xs = [.ref p] ∧ ((SqL K H p ys ∧ ∀ l, H l = none → Q (.ref l) (upd H l (.tup ys))) ∨ (SqT K H p ys ∧ Q (.ref p) H))
abbrev xMax2 : List V → Hp → VK → Prop := fun xs H Q => ∃ i j, xs = [.int i, .int j] ∧ Q (.int (if j > i then j else i)) H
def xEqE (K : PySem.W.Frag) : R2 := fun x y H Q => ∃ a b xs ys, x = .ref a ∧ y = .ref b ∧ SqL K H a xs ∧ SqL K H b ys ∧ (xs = [] ∨ ys = []) ∧ Q (.bl (decide (xs.length = ys.length))) H
section
variable {X : Cx}
end
theorem hu64 {A : Around} {k : Nat} (hr : Room k A) : A.units + 64 < cLine := hr.units
def tOpC (r : R2) (ta : TE) (v : V) : TE := fun σ H Q => ta σ H fun x H1 => r x v H1 Q
def tOpD (r : R2) (v : V) (tb : TE) : TE := fun σ H Q => tb σ H fun y H1 => r v y H1 Q
def tConsC (v : V) (tr : TA) : TA := fun σ H Q => tr σ H fun xs H1 => Q (v :: xs) H1
def gSubC (to : TE) (i : V) (t : TSet) : TG := fun v σ H Q => to σ H fun o H1 => t o i v H1 fun H3 => Q σ H3
section
variable {X : Cx} {a b e : Expr} {es : List Expr} {r : R2} {ta tb : TE} {t : TA} {v : V} {pos : Pos}
theorem pe_opC {op : Operator} (ho : OpR X (binaryOp op) r) (ha : PE X a ta) (hb : PE X b (tC v)) : PE X (.BinOp a op b pos) (tOpC r ta v) := pe_op ho ha hb
theorem pe_opD {op : Operator} (ho : OpR X (binaryOp op) r) (ha : PE X a (tC v)) (hb : PE X b tb) : PE X (.BinOp a op b pos) (tOpD r v tb) := pe_op ho ha hb
theorem pe_cmpRC {op : CmpOp} (ho : OpR X (compareOp op) r) (ha : PE X a ta) (hb : PE X b (tC v)) (hm : behindInMarks op b = false) : PE X (.Compare a [op] [b] pos) (tOpC r ta v) := pe_cmpR ho ha hb hm
theorem pt_cmpRC {op : CmpOp} (ho : OpR X (compareOp op) r) (ha : PE X a ta) (hb : PE X b (tC v)) (hm : behindInMarks op b = false) : PT X (.Compare a [op] [b] pos) (tTest (tOpC r ta v)) := pt_cmpR ho ha hb hm
theorem pe_ixC (hr : IxR X r) (ha : PE X a ta) (hb : PE X b (tC v)) (hs : PlainIx b) : PE X (.Subscript a b pos) (tOpC r ta v) := pe_ix hr ha hb hs
theorem pa_consC (he : PE X e (tC v)) (hr : PA X es t) (h : starEach (e :: es) X.env = (false, eval e X.env) :: starEach es X.env := by rfl) : PA X (e :: es) (tConsC v t) := pa_cons he hr h
theorem pe_unN {i : Int} (ha : PE X a (tC (.int i))) : PE X (.UnaryOp .USub a pos) (tC (.int (-i))) := by
  refine ⟨fun pins s σ H Q I h => (pe_un un_neg ha).run pins s σ H Q I ?_⟩
  exact ⟨i, rfl, h⟩
theorem pg_subC {t : TSet} (ho : PE X a ta) (hi : PE X b (tC v)) (hs : PSet X t) (ha : ∀ v, assign (.Subscript a b pos) X.env v = (do
      let ov ← holding [v] (eval a X.env)
      let iv ← holding [v, ov] (eval b X.env)
      standAt pos
      holding [v, ov, iv] (setItem ov iv v)
      release [v, ov, iv] []) := by intro _; rfl) : PG X (.Subscript a b pos) (gSubC ta v t) := pg_sub ho hi hs ha
end
section
variable {X : Cx}
theorem two_lists {pins : List (Addr × Obj)} {σ : L2.St} {H : Hp} {s : Shared} {a b : Addr} {xs ys : List V} (I : Inv X pins σ H s) (h1 : SqL X.K H a xs) (h2 : SqL X.K H b ys) :
    ∃ i1 i2 : List Value, s.heap.IsList a i1.toArray ∧ s.heap.IsList b i2.toArray ∧ xs.length = i1.length ∧ ys.length = i2.length := by
  obtain ⟨i1, r1, ⟨o, n, ho, hc, _, hd⟩, _⟩ := I.list h1
  obtain ⟨i2, r2, ⟨o2, n2, ho2, hc2, _, hd2⟩, _⟩ := I.list h2
  exact ⟨i1, i2, ⟨o, ho, hc, n, hd⟩, ⟨o2, ho2, hc2, n2, hd2⟩, r1.length, r2.length⟩
theorem opx_eqE (hu : X.A.units + 1 < cLine) : OpR X (compareOp .Eq) (xEqE X.K) := by
  intro pins s σ H x y v u Q I rx ry h
  obtain ⟨a, b, xs, ys, rfl, rfl, h1, h2, he, q⟩ := h
  cases rx
  cases ry
  obtain ⟨i1, i2, p1, p2, l1, l2⟩ := two_lists I h1 h2
  show wpAny (model X.prog X.w) X.A (richCompare .Eq (.ref a) (.ref b)) _ _ s
  by_cases e : xs.length = ys.length
  · rw [decide_eq_true e] at q
    have z : i1 = [] ∧ i2 = [] := by
      constructor <;> apply List.eq_nil_of_length_eq_zero <;> rcases he with he | he <;> subst he <;> simp at e l1 l2 <;> simp_all
    obtain ⟨z1, z2⟩ := z
    subst z1
    subst z2
    exact SeqAt.RcAt.lists (e := fun _ => true) p1 p2 rfl (by omega) (fun j h _ => absurd h (by simp)) _ _ _ _ ⟨.bl true, H, I, rfl, q⟩
  · rw [decide_eq_false e] at q
    exact SeqAt.RcAt.lists_lengths p1 p2 (by rw [List.size_toArray, List.size_toArray, ← l1, ← l2]; simpa using e) (by omega) _ _ _ _ ⟨.bl false, H, I, rfl, q⟩
end

section
variable {X : Cx} {x : Str} {pos : Pos}
theorem pe_gint {i : Int} (hg : Gl X x) (hm : ∃ t, X.mg x = some (.int i t)) (hd : (x == ("__debug__" : Str)) = false := by decide) : PE X (.Name x pos) (tC (.int i)) := by
  obtain ⟨t, e⟩ := hm
  exact pe_glob hg e ⟨t, rfl⟩ hd
def tIsi (K : PySem.W.Frag) (c : String) (ta : TE) : TE := fun σ H Q => ta σ H fun x H1 => rIsi K [x, .ty c] H1 Q
theorem pe_isi {a b : Expr} {c : String} {ta : TE} {p pos : Pos} (hg : Gl X "isinstance") (hm : X.mg "isinstance" = none) (ha : PE X a ta) (hb : PE X b (tC (.ty c)))
    (e1 : starEach [a, b] X.env = (false, eval a X.env) :: starEach [b] X.env := by rfl) (e3 : starEach [b] X.env = (false, eval b X.env) :: starEach [] X.env := by rfl) (e2 : (backTo pos (starEach [b] X.env)).any (·.1) = false := by rfl) :
    PE X (.Call (.Name "isinstance" p) [a, b] [] pos) (tIsi X.K c ta) := pe_callB call_isi hg hm (by decide +kernel) (pa_cons ha (pa_cons hb pa_nil e3) e1) (by decide) (by decide) e1 e2
def tCB1 (r : List V → Hp → VK → Prop) (ta : TE) : TE := fun σ H Q => ta σ H fun x H1 => r [x] H1 Q
theorem pe_callB1 {a : Expr} {ta : TE} {r : List V → Hp → VK → Prop} {id : String} {p : Pos} (hc : CallR X (.builtin id) r) (hg : Gl X x) (hm : X.mg x = none) (hv : bootBuiltins x = some (.builtin id)) (ha : PE X a ta) (hn : x ≠ "__name__" := by decide) (hd : (x == ("__debug__" : Str)) = false := by decide)
    (e1 : starEach [a] X.env = (false, eval a X.env) :: starEach [] X.env := by rfl) : PE X (.Call (.Name x p) [a] [] pos) (tCB1 r ta) := pe_callB hc hg hm hv (pa_cons ha pa_nil e1) hn hd e1 rfl
theorem pe_callTy1 {a : Expr} {ta : TE} {r : List V → Hp → VK → Prop} {T : String} {p : Pos} (hc : CallR X (.type T) r) (hg : Gl X x) (hm : X.mg x = none) (hv : bootBuiltins x = some (.type T)) (ha : PE X a ta) (hn : x ≠ "__name__" := by decide) (hd : (x == ("__debug__" : Str)) = false := by decide)
    (e1 : starEach [a] X.env = (false, eval a X.env) :: starEach [] X.env := by rfl) : PE X (.Call (.Name x p) [a] [] pos) (tCB1 r ta) := pe_callTy hc hg hm hv (pa_cons ha pa_nil e1) hn hd e1 rfl
theorem isi_go {K : PySem.W.Frag} {c t : String} {x : V} {H : Hp} {Q : VK} {b : Bool} (ty : TyX K H x (.type t)) (h : kitB t c = some b) (q : Q (.bl b) H) : rIsi K [x, .ty c] H Q :=
  ⟨x, .ty c, _, _, b, rfl, .ty c, ty, kit_ty h, q⟩
end

section
variable {X : Cx}
end

def rFld (K : PySem.W.Frag) (f : Str) (x : V) (H1 : Hp) (Q : VK) : Prop := ∃ a C dx fs v, x = .ref a ∧ H1 a = some (.ins C dx fs) ∧ Cls K C ∧ NoAttr K C f ∧ fs.lookup f = some v ∧ Q v H1
def tFl (K : PySem.W.Frag) (ta : TE) (f : Str) : TE := fun σ H Q => ta σ H fun x H1 => rFld K f x H1 Q
theorem pe_fl {X : Cx} {o : Expr} {ta : TE} {f : Str} {pos : Pos} (he : PE X o ta) (hb : attributeBase o f X.env (eval o X.env) = eval o X.env) : PE X (.Attribute o f pos) (tFl X.K ta f) := pe_fld he hb
def rSFl (K : PySem.W.Frag) (f : Str) (x y : V) (D : Ends) (σ : L2.St) (H2 : Hp) : Prop := ∃ a C dx fs, x = .ref a ∧ H2 a = some (.ins C dx fs) ∧ Cls K C ∧ NoAttr K C f ∧ fs.length < 1000 ∧ D.nx σ (upd H2 a (.ins C dx (putF f y fs)))
def sFl (K : PySem.W.Frag) (ta tv : TE) (f : Str) : TS := fun D σ H => tv σ H fun y H1 => ta σ H1 fun x H2 => rSFl K f x y D σ H2
theorem ps_fl {X : Cx} {o e : Expr} {ta tv : TE} {f : Str} {p pos : Pos} (he : PE X o ta) (hv : PE X e tv) (hb : swapsWith e (some (.Attribute o f p)) pos.line X.env = pure false) : PS X (.Assign [.Attribute o f p] e pos) (sFl X.K ta tv f) := ps_fld he hv hb
theorem lk_hd {a : Str} {x : V} {r : List (Str × V)} : ((a, x) :: r).lookup a = some x := by simp [List.lookup]
theorem lk_tl {a b : Str} {x : V} {r : List (Str × V)} (h : ¬ b = a) : ((a, x) :: r).lookup b = r.lookup b := by
  have e : (b == a) = false := by simpa using h
  simp [List.lookup, e]
theorem lk_nil {b : Str} : ([] : List (Str × V)).lookup b = none := rfl
theorem put_nil {a : Str} {v : V} : putF a v [] = [(a, v)] := rfl
theorem put_hd {a : Str} {x v : V} {r : List (Str × V)} : putF a v ((a, x) :: r) = (a, v) :: r := by
  show (if a = a then _ else _) = _
  rw [if_pos rfl]
theorem put_tl {a b : Str} {x v : V} {r : List (Str × V)} (h : ¬ a = b) : putF b v ((a, x) :: r) = (a, x) :: putF b v r := by
  show (if a = b then _ else _) = _
  rw [if_neg h]

def Can (P : Program) (w : World) (K : PySem.W.Frag) (mg : Str → Option Value) (base : Heap) (k : Nat) (at_ : Str × Option Str) (ps : List Str) (sp : Sp) : Prop :=
  ∃ fd, FnOk P w K mg base (L2.CX P w) k (He.fAd K at_) fd ps sp ∧ Binds K fd ps [] ∧ PySem.W.keepIn K (.ref (He.fAd K at_)) = true
section
variable {P : Program} {w : World} {K : PySem.W.Frag} {mg : Str → Option Value} {base : Heap} {k : Nat} {at_ : Str × Option Str} {ps : List Str} {sp sp' : Sp}
theorem Can.mono {j : Nat} (F : Can P w K mg base j at_ ps sp) (h : j ≤ k) : Can P w K mg base k at_ ps sp := by
  obtain ⟨fd, F, b, kp⟩ := F
  exact ⟨fd, F.mono h, b, kp⟩
theorem Can.imp (F : Can P w K mg base k at_ ps sp) (h : ∀ vs H Q E, sp' vs H Q E → sp vs H Q E) : Can P w K mg base k at_ ps sp' := by
  obtain ⟨fd, F, b, kp⟩ := F
  exact ⟨fd, F.imp h, b, kp⟩
def TupLe (H H' : Hp) : Prop := ∀ a xs, H a = some (.tup xs) → H' a = some (.tup xs)
theorem TupLe.refl (H : Hp) : TupLe H H := fun _ _ h => h
theorem TupLe.trans {H H1 H2 : Hp} (a : TupLe H H1) (b : TupLe H1 H2) : TupLe H H2 := fun x o h => b x o (a x o h)
theorem TupLe.same {H H' : Hp} (a : Same H H') : TupLe H H' := fun x o h => a x _ h
theorem TupLe.put {H H' : Hp} {p : Addr} {o : HO} (a : TupLe H H') (h : ∀ xs, H' p ≠ some (.tup xs)) : TupLe H (upd H' p o) := fun x xs e => by
  have e2 := a x xs e
  rw [upd_ne (fun z => by rw [z] at e2; exact h xs e2)]
  exact e2
end
section
variable {X : Cx} {k : Nat} {x C m : Str} {ps : List Str} {sp : Sp} {E : XK} {p pos apos : Pos} {e o : Expr} {es : List Expr} {ta : TE} {t : TA} {M : Option Str}
theorem pe_callC (F : Can X.prog X.w X.K X.mg X.base k (x, none) ps sp) (hr : Room k X.A) (hg : Gl X x) (hm : X.mg x = some (.ref (He.ga X.K x))) (hx : Passes (L2.CX X.prog X.w) X E)
    (ha : PA X (e :: es) t) (hdb : (x == ("__debug__" : Str)) = false := by decide) (he : starEach (e :: es) X.env = (false, eval e X.env) :: starEach es X.env := by rfl) (hpl : (backTo pos (starEach es X.env)).any (·.1) = false := by rfl) :
    PE X (.Call (.Name x p) (e :: es) [] pos) (tCall sp [] E t) := by
  obtain ⟨fd, F, b, kp⟩ := F
  exact pe_call F hr hg hm kp b .nil hx ha hdb he hpl
theorem pe_callC0 (F : Can X.prog X.w X.K X.mg X.base k (x, none) ps sp) (hr : Room k X.A) (hg : Gl X x) (hm : X.mg x = some (.ref (He.ga X.K x))) (hx : Passes (L2.CX X.prog X.w) X E)
    (hdb : (x == ("__debug__" : Str)) = false := by decide) : PE X (.Call (.Name x p) [] [] pos) (tCall sp [] E tNil) := by
  obtain ⟨fd, F, b, kp⟩ := F
  exact pe_call0 F hr hg hm kp b .nil hx hdb
theorem pe_methC {pl : Sem Bool} (he : PE X o ta) (c : Cls X.K (He.ga X.K C)) (hm : Meth X.K (He.ga X.K C) m (He.ma X.K (He.ga X.K C) m)) (F : Can X.prog X.w X.K X.mg X.base k (C, some m) ps sp) (hr : Room k X.A) (hx : Passes (L2.CX X.prog X.w) X E) (ha : PA X (e :: es) t)
    (hst : starEach (e :: es) X.env = (false, eval e X.env) :: starEach es X.env := by rfl) (hpl : (backTo pos (starEach es X.env)).any (·.1) = false := by rfl)
    (ht : eval (.Call (.Attribute o m apos) (e :: es) [] pos) X.env = (do
      let ov ← eval o X.env
      standAt apos.atName
      let (f, first) ← holding [ov] (getMethod ov m pl)
      callWith pos f first (backTo pos (starEach (e :: es) X.env)) (backToKw pos (keywordEach [] X.env))) := by rfl) :
    PE X (.Call (.Attribute o m apos) (e :: es) [] pos) (tMeth (He.ga X.K C) m sp [] E ta t) := by
  obtain ⟨fd, F, b, kp⟩ := F
  exact pe_meth he c hm F hr b .nil hx ha hst hpl ht
theorem pe_methC0 {pl : Sem Bool} (he : PE X o ta) (c : Cls X.K (He.ga X.K C)) (hm : Meth X.K (He.ga X.K C) m (He.ma X.K (He.ga X.K C) m)) (F : Can X.prog X.w X.K X.mg X.base k (C, some m) ps sp) (hr : Room k X.A) (hx : Passes (L2.CX X.prog X.w) X E)
    (ht : eval (.Call (.Attribute o m apos) [] [] pos) X.env = (do
      let ov ← eval o X.env
      standAt apos.atName
      let (f, first) ← holding [ov] (getMethod ov m pl)
      callWith pos f first (backTo pos (starEach [] X.env)) (backToKw pos (keywordEach [] X.env))) := by rfl) :
    PE X (.Call (.Attribute o m apos) [] [] pos) (tMeth (He.ga X.K C) m sp [] E ta tNil) := by
  obtain ⟨fd, F, b, kp⟩ := F
  exact pe_meth0 he c hm F hr b .nil hx ht
theorem pe_makeC0 (M : Mk X.K (He.ga X.K C) (He.ma X.K (He.ga X.K C) "__init__")) (F : Can X.prog X.w X.K X.mg X.base k (C, some "__init__") ps sp) (hr : Room (k + 1) X.A) (hg : Gl X C) (hm : X.mg C = some (.ref (He.ga X.K C))) (hx : Passes (L2.CX X.prog X.w) X E)
    (hdb : (C == ("__debug__" : Str)) = false := by decide) : PE X (.Call (.Name C p) [] [] pos) (tMake (He.ga X.K C) sp [] E tNil) := by
  obtain ⟨fd, F, b, kp⟩ := F
  exact pe_make0 M F hr hg hm b .nil hx hdb
end
theorem can_of {P : Program} {w : World} {K : PySem.W.Frag} {mg : Str → Option Value} {base : Heap} {k : Nat} {x qual : Str} {at_ : Str × Option Str} {params : Arguments} {body : List Stmt} {scope : Scope} {N ps : List Str} {sp : Sp} {fd : FuncData}
    (F : FunD K x qual params body scope [] [] (He.fAd K at_) fd) (b : Binds K fd ps []) (S : FnScope N ps scope) (len : ∀ vs H Q E, sp vs H Q E → vs.length = ps.length)
    (t : XK → TS) (h : ∀ (cdv : Value) (A : Around) (outer : List Env) (s : Shared) (H : Hp) (E : XK), Room k (A.deeper (envOfC qual scope s.heap.objs.size (He.fAd K at_) cdv)) →
      PSs (cxOf (L2.CX P w) P w K mg base N qual scope (He.fAd K at_) cdv A outer s H E) body (t E))
    (pure_ : ∀ vs H Q E, sp vs H Q E → t E { nx := fun _ H' => Q .non H', rt := Q } (start N vs) H) : Can P w K mg base (k + 1) at_ ps sp :=
  ⟨fd, F.ok S len fun cdv A outer s H vs Q E hr hsp => ⟨t E, h cdv A outer s H E hr, pure_ vs H Q E hsp⟩, b, F.kp⟩

theorem can_false {P : Program} {w : World} {K : PySem.W.Frag} {mg : Str → Option Value} {base : Heap} {k : Nat} {x qual : Str} {at_ : Str × Option Str} {params : Arguments} {body : List Stmt} {scope : Scope} {ps : List Str} {sp : Sp} {fd : FuncData}
    (F : FunD K x qual params body scope [] [] (He.fAd K at_) fd) (b : Binds K fd ps []) (h : ∀ vs H Q E, ¬ sp vs H Q E) : Can P w K mg base k at_ ps sp :=
  ⟨fd, ⟨fun vs H Q E q => (h vs H Q E q).elim, fun A outer s H args us vs Q E hr he hb hv hs => (h vs H Q E hs).elim⟩, b, F.kp⟩
theorem can_rec {P : Program} {w : World} {K : PySem.W.Frag} {mg : Str → Option Value} {base : Heap} {lev : Nat} {x qual : Str} {at_ : Str × Option Str} {params : Arguments} {body : List Stmt} {scope : Scope} {N ps : List Str} {sp : Nat → Sp} {fd : FuncData}
    (F : FunD K x qual params body scope [] [] (He.fAd K at_) fd) (b : Binds K fd ps []) (S : FnScope N ps scope) (len : ∀ d vs H Q E, sp d vs H Q E → vs.length = ps.length) (no : ∀ vs H Q E, ¬ sp 0 vs H Q E)
    (t : Sp → XK → TS) (h : ∀ (d : Nat), Can P w K mg base (lev + d) at_ ps (sp d) → ∀ (cdv : Value) (A : Around) (outer : List Env) (s : Shared) (H : Hp) (E : XK), Room (lev + d) (A.deeper (envOfC qual scope s.heap.objs.size (He.fAd K at_) cdv)) →
      PSs (cxOf (L2.CX P w) P w K mg base N qual scope (He.fAd K at_) cdv A outer s H E) body (t (sp d) E))
    (pure_ : ∀ d vs H Q E, sp (d + 1) vs H Q E → t (sp d) E { nx := fun _ H' => Q .non H', rt := Q } (start N vs) H) : ∀ d, Can P w K mg base (lev + d) at_ ps (sp d)
  | 0 => can_false F b no
  | d + 1 => can_of F b S (len (d + 1)) (t (sp d)) (h d (can_rec F b S len no t h pure_ d)) (pure_ d)

end Rs

namespace Rs
open PySem PySem.Spec PyProof.Rows L2
section
variable {α β : Type} {F G : α → β → Prop}
theorem P2.get : ∀ {l : List α} {m : List β}, Paired F l m → ∀ {i : Nat} {a : α}, l[i]? = some a → ∃ b, m[i]? = some b ∧ F a b
  | _, _, .nil, _, _, e => by simp at e
  | _, _, .cons h t, 0, a, e => by simp at e; subst e; exact ⟨_, rfl, h⟩
  | _, _, .cons h t, i + 1, a, e => by simpa using P2.get t (i := i) (by simpa using e)
theorem P2.get' : ∀ {l : List α} {m : List β}, Paired F l m → ∀ {i : Nat} {b : β}, m[i]? = some b → ∃ a, l[i]? = some a ∧ F a b
  | _, _, .nil, _, _, e => by simp at e
  | _, _, .cons h t, 0, a, e => by simp at e; subst e; exact ⟨_, rfl, h⟩
  | _, _, .cons h t, i + 1, a, e => by simpa using P2.get' t (i := i) (by simpa using e)
theorem P2.mono (f : ∀ a b, F a b → G a b) : ∀ {l : List α} {m : List β}, Paired F l m → Paired G l m
  | _, _, .nil => .nil
  | _, _, .cons h t => .cons (f _ _ h) (P2.mono f t)
theorem P2.app : ∀ {l l' : List α} {m m' : List β}, Paired F l m → Paired F l' m' → Paired F (l ++ l') (m ++ m')
  | _, _, _, _, .nil, q => q
  | _, _, _, _, .cons h t, q => .cons h (P2.app t q)
theorem P2.one {a : α} {b : β} (h : F a b) : Paired F [a] [b] := .cons h .nil
theorem P2.take : ∀ (n : Nat) {l : List α} {m : List β}, Paired F l m → Paired F (l.take n) (m.take n)
  | 0, _, _, _ => .nil
  | _ + 1, _, _, .nil => .nil
  | n + 1, _, _, .cons h t => .cons h (P2.take n t)
theorem P2.drop : ∀ (n : Nat) {l : List α} {m : List β}, Paired F l m → Paired F (l.drop n) (m.drop n)
  | 0, _, _, q => q
  | _ + 1, _, _, .nil => .nil
  | n + 1, _, _, .cons h t => P2.drop n t
theorem P2.set {a : α} {b : β} (h : F a b) : ∀ (n : Nat) {l : List α} {m : List β}, Paired F l m → Paired F (l.set n a) (m.set n b)
  | _, _, _, .nil => .nil
  | 0, _, _, .cons _ t => .cons h t
  | n + 1, _, _, .cons q t => .cons q (P2.set h n t)
theorem P2.map {γ : Type} {f : γ → α} {g : γ → β} : ∀ (l : List γ), (∀ x ∈ l, F (f x) (g x)) → Paired F (l.map f) (l.map g)
  | [], _ => .nil
  | x :: l, h => .cons (h x (List.mem_cons_self ..)) (P2.map l fun y hy => h y (List.mem_cons_of_mem _ hy))
theorem P2.last {l : List α} {m : List β} {a : α} {b : β} (h : Paired F (l ++ [a]) (m ++ [b])) : F a b := by
  have e : (l ++ [a]).length = (m ++ [b]).length := h.length
  simp at e
  obtain ⟨b', h1, h2⟩ := P2.get h (i := l.length) (a := a) (by simp)
  rw [e] at h1
  simp at h1
  rw [h1]
  exact h2
end
theorem drop_cons {α : Type} : ∀ {l : List α} {i : Nat} {x : α}, l[i]? = some x → l.drop i = x :: l.drop (i + 1)
  | [], _, _, h => by simp at h
  | a :: l, 0, x, h => by simp at h; subst h; rfl
  | a :: l, i + 1, x, h => by simpa using drop_cons (l := l) (i := i) (by simpa using h)
abbrev Rel (α : Type) := Hp → V → α → Prop
def Stable {α : Type} (R : Rel α) : Prop := ∀ (H H' : Hp) (v : V) (x : α), TupLe H H' → R H v x → R H' v x
def IsTp (H : Hp) (v : V) (xs : List V) : Prop := ∃ a, v = .ref a ∧ H a = some (.tup xs)
theorem IsTp.mono {H H' : Hp} {v : V} {xs : List V} (t : TupLe H H') (h : IsTp H v xs) : IsTp H' v xs := let ⟨a, e, q⟩ := h; ⟨a, e, t a xs q⟩
abbrev Row := List Key
abbrev Pr := Int × Row
abbrev Ord := List (Nat × Bool)
def wayS (b : Bool) : Str := if b = true then "up" else "down"
def RowAt : Rel Row := fun H v r => IsTp H v (r.map kV)
def PairAt : Rel Pr := fun H v p => ∃ w, IsTp H v [.int p.1, w] ∧ RowAt H w p.2
def TurnAt : Rel (Nat × Bool) := fun H v t => IsTp H v [.int (t.1 : Int), .str (wayS t.2)]
def IntAt : Rel Int := fun _ v i => v = .int i
def KeyAt : Rel Key := fun _ v i => v = kV i
theorem RowAt.st : Stable RowAt := fun _ _ _ _ t h => IsTp.mono t h
theorem PairAt.st : Stable PairAt := fun _ _ _ _ t ⟨w, a, b⟩ => ⟨w, a.mono t, b.mono t⟩
theorem TurnAt.st : Stable TurnAt := fun _ _ _ _ t h => IsTp.mono t h
theorem IntAt.st : Stable IntAt := fun _ _ _ _ _ h => h
theorem KeyAt.st : Stable KeyAt := fun _ _ _ _ _ h => h
def Lst {α : Type} (R : Rel α) (H : Hp) (l : Addr) (xs : List α) : Prop := ∃ vs, H l = some (.lst vs) ∧ Paired (R H) vs xs
def LstV {α : Type} (R : Rel α) : Rel (List α) := fun H v xs => ∃ l, v = .ref l ∧ Lst R H l xs
section
variable {α : Type} {R : Rel α} {H H' : Hp} {l : Addr} {xs : List α}
theorem Lst.len (h : Lst R H l xs) : ∃ vs, H l = some (.lst vs) ∧ vs.length = xs.length := let ⟨vs, a, b⟩ := h; ⟨vs, a, b.length⟩
theorem Paired.tl (s : Stable R) (t : TupLe H H') {vs : List V} (h : Paired (R H) vs xs) : Paired (R H') vs xs := P2.mono (fun v x q => s H H' v x t q) h
theorem Lst.keep (s : Stable R) (t : TupLe H H') (h : Lst R H l xs) (e : ∀ o, H l = some o → H' l = some o) : Lst R H' l xs := let ⟨vs, a, b⟩ := h; ⟨vs, e _ a, Paired.tl s t b⟩
theorem Lst.same (s : Stable R) (k : Same H H') (h : Lst R H l xs) : Lst R H' l xs := h.keep s (TupLe.same k) fun o => k l o
theorem LstV.same (s : Stable R) (k : Same H H') {v : V} (h : LstV R H v xs) : LstV R H' v xs := let ⟨l, e, q⟩ := h; ⟨l, e, q.same s k⟩
end
theorem Same.new {H : Hp} {p : Addr} {o : HO} (h : H p = none) : Same H (upd H p o) := fun a u e => by
  rw [upd_ne (ne_of_none e h)]
  exact e
theorem Same.mut {H H' : Hp} {p : Addr} {o : HO} (e : Same H H') (h : H p = none) : Same H (upd H' p o) := fun a u ha => by
  rw [upd_ne (ne_of_none ha h)]
  exact e a u ha
theorem TupLe.new {H : Hp} {p : Addr} {o : HO} (h : H p = none) : TupLe H (upd H p o) := TupLe.same (Same.new h)
theorem TupLe.list {H H' : Hp} {p : Addr} {o : HO} {vs : List V} (a : TupLe H H') (h : H' p = some (.lst vs)) : TupLe H (upd H' p o) := a.put fun xs e => by rw [h] at e; cases e
def But (S : List Addr) (H H' : Hp) : Prop := ∀ b o, H b = some o → b ∉ S → H' b = some o
theorem But.refl (S : List Addr) (H : Hp) : But S H H := fun _ _ h _ => h
theorem But.trans {S : List Addr} {H H1 H2 : Hp} (a : But S H H1) (b : But S H1 H2) : But S H H2 := fun c o h n => b c o (a c o h n) n
theorem But.same {S : List Addr} {H H1 : Hp} (a : Same H H1) : But S H H1 := fun c o h _ => a c o h
theorem But.new {S : List Addr} {H H1 : Hp} {p : Addr} {o : HO} (a : But S H H1) (h : H1 p = none) : But S H (upd H1 p o) := fun c u e n => by
  have e2 := a c u e n
  rw [upd_ne (ne_of_none e2 h)]
  exact e2
theorem But.put {S : List Addr} {H H1 : Hp} {p : Addr} {o : HO} (a : But S H H1) (h : p ∈ S) : But S H (upd H1 p o) := fun c u e n => by
  rw [upd_ne (fun z => n (by rw [z]; exact h))]
  exact a c u e n
end Rs
namespace Rs
open PySem PySem.Spec PyProof.Rows L2
theorem But.mut {S : List Addr} {H H1 : Hp} {p : Addr} {o : HO} (a : But S H H1) (h : H p = none) : But S H (L2.upd H1 p o) := fun c u e n => by
  rw [upd_ne (ne_of_none e h)]
  exact a c u e n
theorem But.wide {S T : List Addr} {H H1 : Hp} (a : But S H H1) (h : ∀ x ∈ S, x ∈ T) : But T H H1 := fun c u e n => a c u e fun z => n (h c z)
theorem But.fresh {S : List Addr} {H H0 H1 : Hp} (a : But S H H1) (s : Same H0 H) (h : ∀ x ∈ S, H0 x = none) : Same H0 H1 := fun c u e => a c u (s c u e) fun z => by
  rw [h c z] at e
  cases e
theorem none_of_but {S : List Addr} {H H1 : Hp} {p : Addr} (a : But S H H1) (h : H1 p = none) (n : p ∉ S) : H p = none := by
  cases q : H p with
  | none => rfl
  | some o =>
    rw [a p o q n] at h
    cases h
theorem ixN_nat {n j : Nat} (h : j < n) : ixN n (j : Int) = some j := by
  unfold ixN
  rw [if_pos (by omega), if_pos (by omega)]
  simp
section
variable {K : PySem.W.Frag} {H : Hp} {Q : VK} {x v : V} {xs : List V} {i : Int} {j : Nat}
theorem ixT (h : IsTp H x xs) (hi : i = (j : Int)) (e : xs[j]? = some v) (q : Q v H) : rIxT K x (.int i) H Q := by
  obtain ⟨a, rfl, h⟩ := h
  exact ⟨a, xs, i, v, rfl, rfl, SqT.of h, at_of hi e, q⟩
theorem ixL {a : Addr} (h : H a = some (.lst xs)) (hi : i = (j : Int)) (e : xs[j]? = some v) (q : Q v H) : rIxL K (.ref a) (.int i) H Q := ⟨a, xs, i, v, rfl, rfl, SqL.of h, at_of hi e, q⟩
theorem ixLast {a : Addr} (h : H a = some (.lst (xs ++ [v]))) (q : Q v H) : rIxL K (.ref a) (.int (-1)) H Q := ⟨a, _, _, v, rfl, rfl, SqL.of h, atI_last _ _, q⟩
theorem lenL {a : Addr} (h : H a = some (.lst xs)) {n : Int} (e : n = (xs.length : Int)) (q : Q (.int n) H) : xLen K [.ref a] H Q := by
  subst e
  exact ⟨a, xs, rfl, .inl (SqL.of h), q⟩
theorem eqE {a p : Addr} (h : H a = some (.lst xs)) (hp : H p = none) {b : Bool} (e : b = xs.isEmpty) (q : Q (.bl b) (upd H p (.lst []))) : xEqE K (.ref a) (.ref p) (upd H p (.lst [])) Q := by
  subst e
  refine ⟨a, p, xs, [], rfl, rfl, SqL.of (by rw [upd_ne (ne_of_none h hp)]; exact h), SqL.of upd_same, .inr rfl, ?_⟩
  cases xs <;> exact q
end
theorem lc_yes {σ : L2.St} {H : Hp} {A B : Hp → Prop} (h : A H) : tYes σ H (fun b H3 => if b = true then A H3 else B H3) := by
  show if true = true then A H else B H
  rw [if_pos rfl]
  exact h
theorem sz0 : (0 : Nat) ≤ sizeLine := Nat.zero_le _
theorem szle {n : Nat} (h : n ≤ 100000) : n ≤ sizeLine := Nat.le_trans h (by decide)
theorem szlt {n : Nat} (h : n < 100000) : n < sizeLine := Nat.lt_of_lt_of_le h (by decide)
def keyLt : Key → Key → Bool
  | .inl i, .inl j => decide (i < j)
  | .inr s, .inr t => decide (s.cps.toList < t.cps.toList)
  | _, _ => false
def kcol (r : Row) (c : Nat) : Key := r.getD c (.inl 0)
def before : Ord → Pr → Pr → Bool
  | [], p, q => decide (p.1 < q.1)
  | t :: o, p, q => if kcol p.2 t.1 = kcol q.2 t.1 then before o p q else (keyLt (kcol p.2 t.1) (kcol q.2 t.1) == t.2)
def Cmp (o : Ord) (p q : Row) : Prop := ∀ t ∈ o, t.1 < p.length ∧ t.1 < q.length ∧ (kcol p t.1).isLeft = (kcol q t.1).isLeft
theorem newS {H H1 : Hp} {q : Addr} {o : HO} (h : H q = none) (e : L2.upd H q o = H1) : Same H H1 := by
  subst e
  exact Rs.Same.new h
theorem newE {H H1 : Hp} {q : Addr} {o : HO} (e : L2.upd H q o = H1) : H1 q = some o := by
  subst e
  exact upd_same
theorem mkS {H H1 : Hp} {q d : Addr} {o o2 : HO} (hq : H q = none) (hd : H d = none) (n : d ≠ q) (e : L2.upd (L2.upd H d o2) q o = H1) : Same H H1 := by
  subst e
  exact (Rs.Same.new hd).trans (Rs.Same.new (by rw [upd_ne n.symm]; exact hq))
theorem putB {H H1 : Hp} {q : Addr} {o : HO} (e : L2.upd H q o = H1) : But [q] H H1 := by
  subst e
  exact (But.refl _ _).put (by simp)
theorem putT {H H1 : Hp} {q : Addr} {o u : HO} (h : H q = some u) (n : ∀ xs, u ≠ .tup xs) (e : L2.upd H q o = H1) : TupLe H H1 := by
  subst e
  exact (TupLe.refl H).put fun xs z => by
    rw [h] at z
    exact n xs (Option.some.inj z)
end Rs

namespace Rs
open PySem PySem.Spec PyProof.Rows L2
def letters : List Nat := ("abcdefghijklmnopqrstuvwxyz" : Str).cps.toList
def isValue (k : Str) : Key → Bool
  | .inl i => decide (k ≠ "word") && (decide (-999 ≤ i) && decide (i ≤ 999))
  | .inr s => decide (k = "word") && (decide (s.length ≤ 6) && s.cps.toList.all fun c => decide (c ∈ letters))
def isRow (ks : List Str) (r : Row) : Bool := decide (r.length = ks.length) && (List.range ks.length).all fun i => isValue (ks.getD i "") (kcol r i)
structure GoodKinds (ks : List Str) : Prop where
  pos : 1 ≤ ks.length
  le : ks.length ≤ 4
  all : ∀ k ∈ ks, k = "number" ∨ k = "word"
structure GoodOrd (ks : List Str) (o : Ord) : Prop where
  ne : o ≠ []
  col : ∀ t ∈ o, t.1 < ks.length
  nd : (o.map (·.1)).Nodup
theorem isRow_len {ks : List Str} {r : Row} (h : isRow ks r = true) : r.length = ks.length := by
  unfold isRow at h
  simp only [Bool.and_eq_true, decide_eq_true_eq] at h
  exact h.1
theorem isRow_val {ks : List Str} {r : Row} (h : isRow ks r = true) {i : Nat} (hi : i < ks.length) : isValue (ks.getD i "") (kcol r i) = true := by
  unfold isRow at h
  simp only [Bool.and_eq_true, decide_eq_true_eq, List.all_eq_true, List.mem_range] at h
  exact h.2 i hi
theorem Cmp.tail {t : Nat × Bool} {o : Ord} {p q : Row} (h : Cmp (t :: o) p q) : Cmp o p q := fun u hu => h u (List.mem_cons_of_mem _ hu)
theorem Cmp.head {t : Nat × Bool} {o : Ord} {p q : Row} (h : Cmp (t :: o) p q) : (kcol p t.1).isLeft = (kcol q t.1).isLeft := (h t (List.mem_cons_self ..)).2.2
structure Fine (ks : List Str) (xs : List Pr) : Prop where
  row : ∀ p ∈ xs, isRow ks p.2 = true
  nd : (xs.map (·.1)).Nodup
theorem Fine.sub {ks : List Str} {xs ys : List Pr} (h : Fine ks xs) (s : ys.Sublist xs) : Fine ks ys := ⟨fun q hq => h.row q (s.subset hq), h.nd.sublist (s.map (·.1))⟩
theorem Fine.take {ks : List Str} {xs : List Pr} (h : Fine ks xs) (n : Nat) : Fine ks (xs.take n) := h.sub (List.take_sublist _ _)
theorem Fine.drop {ks : List Str} {xs : List Pr} (h : Fine ks xs) (n : Nat) : Fine ks (xs.drop n) := h.sub (List.drop_sublist _ _)
def Up (o : Ord) (xs : List Pr) : Prop := xs.Pairwise fun p q => before o p q = true
end Rs

namespace Rs
open PySem PySem.Spec PyProof.Rows L2
structure Box (H : Hp) (a l : Addr) : Prop where
  ex : ∃ (ns : List Int) (st : Int), H a = some (.lst [.ref l, .int st]) ∧ H l = some (.lst (ns.map V.int)) ∧ 0 ≤ st
theorem Box.ne {H : Hp} {a l : Addr} (b : Box H a l) : a ≠ l := by
  obtain ⟨ns, st, h1, h2, _⟩ := b.ex
  intro e
  subst e
  rw [h1] at h2
  cases ns with
  | nil => cases h2
  | cons n ns => cases h2
theorem Box.keep {H H' : Hp} {a l : Addr} (b : Box H a l) (h1 : ∀ o, H a = some o → H' a = some o) (h2 : ∀ o, H l = some o → H' l = some o) : Box H' a l := by
  obtain ⟨ns, st, e1, e2, h⟩ := b.ex
  exact ⟨ns, st, h1 _ e1, h2 _ e2, h⟩
theorem Box.same {H H' : Hp} {a l : Addr} (b : Box H a l) (s : Same H H') : Box H' a l := b.keep (fun o => s a o) fun o => s l o
theorem Box.tup {H H' : Hp} {a l : Addr} (b : Box H a l) (k : But [a, l] H H') : TupLe H H' := fun c xs e => by
  obtain ⟨ns, st, e1, e2, h⟩ := b.ex
  refine k c _ e ?_
  intro hm
  simp at hm
  rcases hm with rfl | rfl
  · rw [e1] at e; cases e
  · rw [e2] at e; cases e
theorem un {H : Hp} {a p : Addr} {o u : HO} (h : H a = some o) (hp : H p = none) : upd H p u a = some o := by
  rw [upd_ne (ne_of_none h hp)]
  exact h
theorem up {H : Hp} {a p : Addr} {o u : HO} (h : H a = some o) (hp : a ≠ p) : upd H p u a = some o := by
  rw [upd_ne hp]
  exact h
theorem nn {a b c : Addr} (h1 : a ≠ b) (h2 : a ≠ c) : a ∉ [b, c] := by
  intro hm
  simp at hm
  rcases hm with h | h
  · exact h1 h
  · exact h2 h
abbrev N_law_begun : List Str := ["_law_script", "_law_stirred", "_law_cell"]
abbrev P_law_begun : List Str := ["_law_script"]
def sp_law_begun (K : PySem.W.Frag) : Sp := fun vs H Q E => match vs with
  | [s] => ∃ (p : Addr) (ns : List Int), s = .ref p ∧ SqL K H p (ns.map V.int) ∧ ns.length ≤ 63 ∧ ∀ a l H', H a = none → H l = none → Box H' a l → Same H H' → Q (.ref a) H'
  | _ => False
def t_law_begun (K : PySem.W.Frag) (E : XK) : TS := (tSeq (tAsg (tC (.int 0)) (gName 1))
  (tSeq (tFor (iList K (tVar 0)) (gName 2) (tAsg (tOpC xMod (tOpC xAdd (tOp xAdd (tOpC xMul (tVar 1) (.int 48271)) (tOpC xMul (tVar 2) (.int 69621))) (.int 11)) (.int 2147483647)) (gName 1)))
   (tRet (tLst (tCons (tCB1 (xList K) (tVar 0)) (tCons (tOp xMul (tVar 1) (tCB1 xInt (tOpC xGt (tCB1 (xLen K) (tVar 0)) (.int 2)))) tNil))))))
theorem pure_law_begun {K : PySem.W.Frag} : ∀ vs H Q E, sp_law_begun K vs H Q E → t_law_begun K E { nx := fun _ H' => Q .non H', rt := Q } (start N_law_begun vs) H := by
  intro vs H Q E h
  match vs, h with
  | [s], h =>
    obtain ⟨p, ns, rfl, hs, hlen, k⟩ := h
    refine ⟨_, rfl, p, rfl, ⟨_, hs⟩, for_list (K := K) (a := p) (xs := ns.map V.int) (fun i σ H' => ∃ (st : Int) (x2 : Option V), σ = [some (.ref p), some (.int st), x2] ∧ H' = H ∧ 0 ≤ st) ⟨0, none, rfl, rfl, Int.le_refl _⟩ ?_ ?_ ?_⟩
    · rintro i σ H' _ ⟨_, _, _, rfl, _⟩
      exact hs
    · rintro i v σ H' hi ⟨st, x2, rfl, rfl, h0⟩
      rw [List.getElem?_map] at hi
      obtain ⟨n, hn, rfl⟩ := Option.map_eq_some_iff.mp hi
      refine ⟨_, rfl, _, _, rfl, rfl, .inr ⟨by decide, by decide⟩, _, rfl, _, _, rfl, rfl, .inr ⟨by decide, by decide⟩, _, _, rfl, rfl, _, _, rfl, rfl, _, _, rfl, rfl, by show (0 : Int) < 2147483647; decide, ?_⟩
      exact ⟨_, _, rfl, rfl, Int.emod_nonneg _ (by decide)⟩
    · rintro σ H' ⟨st, x2, rfl, rfl, h0⟩
      refine ⟨_, rfl, p, _, rfl, .inl hs, fun l hl => ?_⟩
      have hs1 : SqL K (upd H' l (.lst (ns.map V.int))) p (ns.map V.int) := Same.seq (Rs.Same.new hl) hs
      refine ⟨_, rfl, _, rfl, p, _, rfl, .inl hs1, _, _, rfl, rfl, .inr ⟨_, rfl, ?_⟩⟩
      have hb : ∀ b : Bool, CMul st (if b = true then 1 else 0) := fun b => by cases b <;> exact .inr ⟨by decide, by decide⟩
      refine ⟨_, _, rfl, rfl, hb _, szle (by show 2 ≤ 100000; decide), fun a ha => ?_⟩
      have nal : l ≠ a := ne_of_none upd_same ha
      have hz : ∀ b : Bool, 0 ≤ st * (if b = true then (1 : Int) else 0) := fun b => by cases b <;> simp [h0]
      refine k a l _ (none_of_but (S := []) (But.same (Rs.Same.new hl)) ha (by simp)) hl ⟨ns, _, upd_same, by rw [upd_ne nal]; exact upd_same, hz _⟩ (Same.trans (Rs.Same.new hl) (Rs.Same.new ha))
abbrev N_law_take : List Str := ["_law_box", "_law_many", "_law_number"]
abbrev P_law_take : List Str := ["_law_box", "_law_many"]
def sp_law_take (K : PySem.W.Frag) : Sp := fun vs H Q E => match vs with
  | [b, m] => ∃ a l n, b = .ref a ∧ m = .int n ∧ 0 < n ∧ n ≤ 1000000000000000000 ∧ Box H a l ∧ ∀ r H', 0 ≤ r → r < n → Box H' a l → But [a, l] H H' → Q (.int r) H'
  | _ => False
def t_law_take (K : PySem.W.Frag) (E : XK) : TS := (tSeq (tIfS (tTest (tOp (xEqE K) (tOpC (rIxL K) (tVar 0) (.int 0)) (tLst tNil))) 
    (tSeq (tAsg (tOpC xMod (tOpC xMul (tOpC (rIxL K) (tVar 0) (.int 1)) (.int 48271)) (.int 2147483647)) (gSubC (tVar 0) (.int 1) rSetL))
    (tRet (tOp xMod (tOpC xDiv (tOpC (rIxL K) (tVar 0) (.int 1)) (.int 7)) (tVar 1)))) tNext)
  (tSeq (tAsg (tOpC (rIxL K) (tOpC (rIxL K) (tVar 0) (.int 0)) (.int 0)) (gName 2))
   (tSeq (tAsg (tOp xDiv (tVar 2) (tVar 1)) (gSubC (tOpC (rIxL K) (tVar 0) (.int 0)) (.int 0) rSetL))
    (tSeq (tIfS (tOr (tTest (tOpC rEq (tOpC (rIxL K) (tOpC (rIxL K) (tVar 0) (.int 0)) (.int 0)) (.int 0))) (tTest (tOpC rEq (tOpC (rIxL K) (tOpC (rIxL K) (tVar 0) (.int 0)) (.int 0)) (.int (-1))))) (tDrop (tBM K "list" rPopAt (tOpC (rIxL K) (tVar 0) (.int 0)) (tConsC (.int 0) tNil))) tNext)
     (tRet (tOp xMod (tVar 2) (tVar 1)))))))
theorem ixN_zero {n : Nat} : ixN (n + 1) 0 = some 0 := by
  unfold ixN
  rw [if_pos (by omega), if_pos (by omega)]
  rfl
theorem seqIx {n j : Nat} (h : j < n) : seqIndex? (j : Int) n = some j := (ixN_seq (ixN_nat h)).1
theorem div_ok {i j : Int} (h : 0 < j) (h2 : j ≤ 1000000000000000000) : CDivW i j := wide_div (b := 60) h (by omega) (by decide) (by decide)
theorem pure_law_take {K : PySem.W.Frag} : ∀ vs H Q E, sp_law_take K vs H Q E → t_law_take K E { nx := fun _ H' => Q .non H', rt := Q } (start N_law_take vs) H := by
  intro vs H Q E h
  match vs, h with
  | [b, m], h =>
    obtain ⟨a, l, n, rfl, rfl, hn, hn2, B, k⟩ := h
    have nal := B.ne
    obtain ⟨ns, st, ha, hl, h0⟩ := B.ex
    refine ⟨_, rfl, ixL ha (j := 0) rfl rfl ⟨sz0, fun p hp => ?_⟩⟩
    have ha1 : upd H p (.lst []) a = _ := un ha hp
    have hl1 : upd H p (.lst []) l = _ := un hl hp
    have s1 : But [a, l] H (upd H p (.lst [])) := But.same (Rs.Same.new hp)
    cases ns with
    | nil =>
      refine eqE hl hp (b := true) rfl ⟨_, rfl, ?_⟩
      refine ⟨_, rfl, ixL ha1 (j := 1) rfl rfl ⟨_, _, rfl, rfl, .inr ⟨by decide, by decide⟩, _, _, rfl, rfl, by show (0 : Int) < 2147483647; decide, ?_⟩⟩
      refine ⟨_, rfl, _, _, _, 1, rfl, rfl, ha1, rfl, ?_⟩
      refine ⟨_, rfl, ixL (j := 1) upd_same rfl rfl ⟨_, _, rfl, rfl, div_ok (by decide) (by decide), _, rfl, _, _, rfl, rfl, hn, ?_⟩⟩
      exact k _ _ (Int.emod_nonneg _ (by omega)) (Int.emod_lt_of_pos _ hn) ⟨[], _, upd_same, by rw [upd_ne nal.symm]; exact hl1, Int.emod_nonneg _ (by decide)⟩ (s1.put (by simp))
    | cons x ns =>
      refine eqE hl hp (b := false) rfl ⟨_, rfl, ?_⟩
      refine ⟨_, rfl, ixL ha1 (j := 0) rfl rfl (ixL hl1 (j := 0) rfl rfl ?_)⟩
      refine ⟨_, rfl, _, rfl, _, _, rfl, rfl, div_ok hn hn2, ?_⟩
      refine ⟨_, rfl, ixL ha1 (j := 0) rfl rfl ⟨_, _, _, 0, rfl, rfl, hl1, ixN_zero, ?_⟩⟩
      have ha2 : upd (upd H p (.lst [])) l (.lst (((x :: ns).map V.int).set 0 (.int (x / n)))) a = _ := up ha1 nal
      have hl2 : upd (upd H p (.lst [])) l (.lst (((x :: ns).map V.int).set 0 (.int (x / n)))) l = some (.lst (((x / n) :: ns).map V.int)) := upd_same
      have s2 : But [a, l] H (upd (upd H p (.lst [])) l (.lst (((x :: ns).map V.int).set 0 (.int (x / n))))) := s1.put (by simp)
      have fin : ∀ H', Box H' a l → But [a, l] H H' → Q (.int (x % n)) H' := fun H' b' k' => k _ _ (Int.emod_nonneg _ (by omega)) (Int.emod_lt_of_pos _ hn) b' k'
      have pop : ∀ D : Ends, (∀ σ H', Box H' a l → But [a, l] H H' → σ = [some (.ref a), some (.int n), some (.int x)] → D.nx σ H') → tDrop (tBM K "list" rPopAt (tOpC (rIxL K) (tVar 0) (.int 0)) (tConsC (.int 0) tNil)) D [some (.ref a), some (.int n), some (.int x)] (upd (upd H p (.lst [])) l (.lst (((x :: ns).map V.int).set 0 (.int (x / n))))) := fun D hD => by
        refine ⟨_, rfl, ixL ha2 (j := 0) rfl rfl ⟨.inl ⟨rfl, _, SqL.of hl2⟩, _, _, _, 0, _, rfl, rfl, hl2, by decide, by decide, seqIx (Nat.zero_lt_succ _), rfl, ?_⟩⟩
        refine hD _ _ ⟨ns, st, up ha2 nal, upd_same, h0⟩ (s2.put (by simp)) rfl
      refine ⟨_, rfl, ixL ha2 (j := 0) rfl rfl (ixL hl2 (j := 0) rfl rfl ⟨rfl, _, rfl, ?_⟩)⟩
      by_cases e : (V.int (x / n)) = .int 0
      · rw [decide_eq_true e]
        refine pop _ fun σ H' b' k' e' => ?_
        subst e'
        exact ⟨_, rfl, _, rfl, _, _, rfl, rfl, hn, fin _ b' k'⟩
      · rw [decide_eq_false e]
        refine ⟨_, rfl, ixL ha2 (j := 0) rfl rfl (ixL hl2 (j := 0) rfl rfl ⟨rfl, _, rfl, ?_⟩)⟩
        by_cases e' : (V.int (x / n)) = .int (-1)
        · rw [decide_eq_true e']
          refine pop _ fun σ H' b' k' e' => ?_
          subst e'
          exact ⟨_, rfl, _, rfl, _, _, rfl, rfl, hn, fin _ b' k'⟩
        · rw [decide_eq_false e']
          exact ⟨_, rfl, _, rfl, _, _, rfl, rfl, hn, fin _ ⟨(x / n) :: ns, st, ha2, hl2, h0⟩ s2⟩
def KindsAt : Rel (List Str) := fun H v ks => IsTp H v (ks.map V.str)
end Rs

namespace Rs
open PySem PySem.Spec PyProof.Rows L2
theorem nodup_cast : ∀ {l : List Nat}, l.Nodup → (l.map fun (n : Nat) => (n : Int)).Nodup
  | [], _ => by simp
  | a :: l, h => by
    rw [List.map_cons, List.nodup_cons]
    obtain ⟨h1, h2⟩ := List.nodup_cons.mp h
    refine ⟨fun hm => ?_, nodup_cast h2⟩
    obtain ⟨b, hb, e⟩ := List.mem_map.mp hm
    exact h1 (by have : b = a := by omega
                 rw [← this]; exact hb)
def RowSz (r : Row) : Prop := r.length ≤ 1000 ∧ ∀ s, Sum.inr s ∈ r → s.length ≤ 1000
theorem RowSz.of {ks : List Str} {r : Row} (h : isRow ks r = true) (hk : ks.length ≤ 4) : RowSz r := by
  refine ⟨by rw [isRow_len h]; omega, fun s hs => ?_⟩
  obtain ⟨i, hi, e⟩ := List.mem_iff_getElem.mp hs
  have v := isRow_val h (i := i) (by rw [← isRow_len h]; exact hi)
  have ek : kcol r i = .inr s := by
    unfold kcol
    rw [List.getD_eq_getElem?_getD, List.getElem?_eq_getElem hi, e]
    rfl
  rw [ek] at v
  simp only [isValue, Bool.and_eq_true, decide_eq_true_eq] at v
  omega
def mrg (o : Ord) : List Pr → List Pr → List Pr
  | xs, [] => xs
  | xs, y :: ys => (xs.takeWhile fun x => before o x y) ++ y :: mrg o (xs.dropWhile fun x => before o x y) ys
theorem cut_from {xs : List V} {n : Nat} (h : n ≤ xs.length) : cutV xs (some (n : Int)) none = xs.drop n := by
  unfold cutV
  rw [HT.sIx_nat, HT.sIx_none, Nat.min_eq_left h]
  exact List.take_of_length_le (by rw [List.length_drop]; exact Nat.le_refl _)
theorem cut_to {xs : List V} {n : Nat} (h : n ≤ xs.length) : cutV xs none (some (n : Int)) = xs.take n := by
  unfold cutV
  rw [HT.sIx_nat, HT.sIx_none, Nat.min_eq_left h, List.drop_zero]
  rfl
end Rs

namespace Rs
open PySem PySem.Spec PyProof.Rows L2
theorem Fine.left {ks : List Str} {xs ys : List Pr} (h : Fine ks (xs ++ ys)) : Fine ks xs := h.sub (List.sublist_append_left _ _)
end Rs

namespace Rs
open PySem PySem.Spec PyProof.Rows L2
structure TxtRoom (K : PySem.W.Frag) : Prop where
  cl : Cls K (He.ga K "Room")
  n_order : NoAttr K (He.ga K "Room") "order"
  n_cells : NoAttr K (He.ga K "Room") "cells"
def f_Room (x0 x1 : V) : List (Str × V) := [(("order" : Str), x0), (("cells" : Str), x1)]
def RoomOb (K : PySem.W.Frag) (H : Hp) (p : Addr) (x0 x1 : V) : Prop := ∃ dx, H p = some (.ins (He.ga K "Room") dx (f_Room x0 x1))
section
variable {K : PySem.W.Frag} {x0 x1 y : V} {H : Hp} {Q : VK} {p : Addr} {D : Ends} {σ : L2.St}
end
structure TxtMaker (K : PySem.W.Frag) : Prop where
  cl : Cls K (He.ga K "Maker")
  n_order : NoAttr K (He.ga K "Maker") "order"
  n_size : NoAttr K (He.ga K "Maker") "size"
  n_room : NoAttr K (He.ga K "Maker") "room"
  n_run : NoAttr K (He.ga K "Maker") "run"
  n_last : NoAttr K (He.ga K "Maker") "last"
def f_Maker (x0 x1 x2 x3 x4 : V) : List (Str × V) := [(("order" : Str), x0), (("size" : Str), x1), (("room" : Str), x2), (("run" : Str), x3), (("last" : Str), x4)]
def MakerOb (K : PySem.W.Frag) (H : Hp) (p : Addr) (x0 x1 x2 x3 x4 : V) : Prop := ∃ dx, H p = some (.ins (He.ga K "Maker") dx (f_Maker x0 x1 x2 x3 x4))
section
variable {K : PySem.W.Frag} {x0 x1 x2 x3 x4 y : V} {H : Hp} {Q : VK} {p : Addr} {D : Ends} {σ : L2.St}
end
section
variable {α : Type} {d : α} {cs : List α} {i j k : Nat}
end
section
variable {α : Type} {ok : α → Prop} {lt : α → α → Bool} {d : α}
end
abbrev Cell := Int × Pr
def c0 : Cell := (0, 0, [])
end Rs

namespace Rs
open PySem PySem.Spec PyProof.Rows L2
def CellAt : Rel Cell := fun H v c => ∃ w, IsTp H v [.int c.1, w] ∧ PairAt H w c.2
theorem CellAt.st : Stable CellAt := fun _ _ _ _ t ⟨w, a, b⟩ => ⟨w, a.mono t, PairAt.st _ _ _ _ t b⟩
structure RoomS (K : PySem.W.Frag) (H : Hp) (p lo lc : Addr) (o : Ord) (cs : List Cell) : Prop where
  ob : RoomOb K H p (.ref lo) (.ref lc)
  ord : Lst TurnAt H lo o
  cells : Lst CellAt H lc cs
  ne : lo ≠ lc
theorem RoomOb.keep {K : PySem.W.Frag} {H H' : Hp} {p : Addr} {x y : V} (h : RoomOb K H p x y) (k : ∀ o, H p = some o → H' p = some o) : RoomOb K H' p x y := let ⟨dx, e⟩ := h; ⟨dx, k _ e⟩
theorem RoomOb.same {K : PySem.W.Frag} {H H' : Hp} {p : Addr} {x y : V} (h : RoomOb K H p x y) (s : Same H H') : RoomOb K H' p x y := h.keep fun o => s p o
theorem But.tupL {H H' : Hp} {l : Addr} {vs : List V} (h : H l = some (.lst vs)) (k : But [l] H H') : TupLe H H' := fun c xs e => k c _ e (by
  intro hm
  rw [List.mem_singleton] at hm
  subst hm
  rw [h] at e
  cases e)
theorem ne1 {a b : Addr} (h : a ≠ b) : a ∉ [b] := fun hm => h (List.mem_singleton.mp hm)
theorem RoomS.same {K : PySem.W.Frag} {H H' : Hp} {p lo lc : Addr} {o : Ord} {cs : List Cell} (h : RoomS K H p lo lc o cs) (s : Same H H') : RoomS K H' p lo lc o cs := ⟨h.ob.same s, h.ord.same TurnAt.st s, h.cells.same CellAt.st s, h.ne⟩
theorem RoomS.plc {K : PySem.W.Frag} {H : Hp} {p lo lc : Addr} {o : Ord} {cs : List Cell} (h : RoomS K H p lo lc o cs) : p ≠ lc := by
  obtain ⟨dx, e⟩ := h.ob
  obtain ⟨vs, e2, _⟩ := h.cells
  exact ne_of e e2 (by intro z; cases z)
theorem RoomS.other {K : PySem.W.Frag} {H H' : Hp} {p lo lc : Addr} {o : Ord} {cs cs' : List Cell} (h : RoomS K H p lo lc o cs) (k : But [lc] H H') (c : Lst CellAt H' lc cs') : RoomS K H' p lo lc o cs' := by
  obtain ⟨vs, e2, _⟩ := h.cells
  have t := But.tupL e2 k
  exact ⟨h.ob.keep fun u e => k _ _ e (ne1 h.plc), h.ord.keep TurnAt.st t fun u e => k _ _ e (ne1 h.ne), c, h.ne⟩
theorem Lst.cell {α : Type} {R : Rel α} {H : Hp} {l : Addr} {xs : List α} (h : Lst R H l xs) {i : Nat} {x : α} (e : xs[i]? = some x) : ∃ vs v, H l = some (.lst vs) ∧ vs[i]? = some v ∧ R H v x := by
  obtain ⟨vs, a, b⟩ := h
  obtain ⟨v, hv, r⟩ := P2.get' b e
  exact ⟨vs, v, a, hv, r⟩
end Rs

namespace Rs
open PySem PySem.Spec PyProof.Rows L2
end Rs

namespace Rs
open PySem PySem.Spec PyProof.Rows L2
def OptAt : Rel (Option Pr) := fun H v q => match q with
  | none => v = .non
  | some p => PairAt H v p
theorem OptAt.st : Stable OptAt := fun H H' v q t h => match q, h with
  | none, h => h
  | some p, h => PairAt.st H H' v p t h
structure MakerS (K : PySem.W.Frag) (H : Hp) (p lo pr lc : Addr) (o : Ord) (size : Int) (cs : List Cell) (run : Int) (last : Option Pr) : Prop where
  ob : ∃ vl, MakerOb K H p (.ref lo) (.int size) (.ref pr) (.int run) vl ∧ OptAt H vl last
  room : RoomS K H pr lo lc o cs
  ne : p ≠ pr
theorem MakerOb.keep {K : PySem.W.Frag} {H H' : Hp} {p : Addr} {x0 x1 x2 x3 x4 : V} (h : MakerOb K H p x0 x1 x2 x3 x4) (k : ∀ o, H p = some o → H' p = some o) : MakerOb K H' p x0 x1 x2 x3 x4 := let ⟨dx, e⟩ := h; ⟨dx, k _ e⟩
theorem MakerS.same {K : PySem.W.Frag} {H H' : Hp} {p lo pr lc : Addr} {o : Ord} {size : Int} {cs : List Cell} {run : Int} {last : Option Pr} (h : MakerS K H p lo pr lc o size cs run last) (s : Same H H') : MakerS K H' p lo pr lc o size cs run last := by
  obtain ⟨vl, ob, hl⟩ := h.ob
  exact ⟨⟨vl, ob.keep fun u => s p u, OptAt.st _ _ _ _ (TupLe.same s) hl⟩, h.room.same s, h.ne⟩
theorem MakerS.plc {K : PySem.W.Frag} {H : Hp} {p lo pr lc : Addr} {o : Ord} {size : Int} {cs : List Cell} {run : Int} {last : Option Pr} (h : MakerS K H p lo pr lc o size cs run last) : p ≠ lc ∧ p ≠ lo := by
  obtain ⟨vl, ⟨dx, e⟩, _⟩ := h.ob
  obtain ⟨vs, e2, _⟩ := h.room.cells
  obtain ⟨os, e3, _⟩ := h.room.ord
  exact ⟨ne_of e e2 (by intro z; cases z), ne_of e e3 (by intro z; cases z)⟩
theorem MakerS.tup {K : PySem.W.Frag} {H H' : Hp} {p lo pr lc : Addr} {o : Ord} {size : Int} {cs : List Cell} {run : Int} {last : Option Pr} (h : MakerS K H p lo pr lc o size cs run last) (k : But [p, lc] H H') : TupLe H H' := fun c xs e => by
  obtain ⟨vl, ⟨dx, e1⟩, _⟩ := h.ob
  obtain ⟨vs, e2, _⟩ := h.room.cells
  exact k c _ e (nn (ne_of e e1 (by intro z; cases z)) (ne_of e e2 (by intro z; cases z)))
def late (o : Ord) (q : Pr) (last : Option Pr) : Bool := match last with
  | none => false
  | some l => before o q l
end Rs

namespace Rs
open PySem PySem.Spec PyProof.Rows L2
def srt (o : Ord) : List Pr → List Pr
  | [] => []
  | x :: xs => mrg o [x] (srt o xs)
def mn (o : Ord) (xs : List Pr) : Pr := (srt o xs).getD 0 c0.2
def outN (n : Int) (xs : List Pr) : List Pr := xs.filter fun q => decide (q.1 ≠ n)
def fillL (o : Ord) (size : Int) (last : Option Pr) : List Pr → List Pr → List Pr → List Pr × List Pr × List Pr
  | [], h, l => ([], h, l)
  | p :: left, h, l => if ((h.length : Int) + (l.length : Int) < size) then (if late o p last then fillL o size last left h (l ++ [p]) else fillL o size last left (h ++ [p]) l) else (p :: left, h, l)
def inner (o : Ord) (size : Int) : Nat → List Pr → List Pr → List Pr → List Pr → List Pr × List Pr × List Pr
  | 0, left, _, l, run => (left, l, run)
  | n + 1, left, h, l, run =>
    if (fillL o size run.getLast? left h l).2.1 = [] then ((fillL o size run.getLast? left h l).1, (fillL o size run.getLast? left h l).2.2, run)
    else inner o size n (fillL o size run.getLast? left h l).1 (outN (mn o (fillL o size run.getLast? left h l).2.1).1 (fillL o size run.getLast? left h l).2.1) (fillL o size run.getLast? left h l).2.2 (run ++ [mn o (fillL o size run.getLast? left h l).2.1])
def outer (o : Ord) (size : Int) : Nat → List Pr → List Pr → List (List Pr) → List (List Pr)
  | 0, _, _, found => found
  | n + 1, left, l, found => if left = [] ∧ l = [] then found else
    outer o size n (inner o size (left.length + l.length + 1) left l [] []).1 (inner o size (left.length + l.length + 1) left l [] []).2.1 (found ++ [(inner o size (left.length + l.length + 1) left l [] []).2.2])
end Rs

namespace Rs
open PySem PySem.Spec PyProof.Rows L2
def cells (k : Int) (h l : List Pr) : List Cell := h.map (fun q => (k, q)) ++ l.map fun q => (k + 1, q)
section
variable {K : PySem.W.Frag} {H : Hp}
theorem dpAll {α : Type} {R : Rel α} {f : α → PyData} (hf : ∀ v x, R H v x → Dp K H v (f x)) : ∀ {vs : List V} {xs : List α}, Paired (R H) vs xs → DpAll K H vs (xs.map f)
  | _, _, .nil => .nil
  | _, _, .cons h t => .cons (hf _ _ h) (dpAll hf t)
theorem lst_dp {α : Type} {R : Rel α} {f : α → PyData} (hf : ∀ v x, R H v x → Dp K H v (f x)) {l : Addr} {xs : List α} (h : Lst R H l xs) : Dp K H (.ref l) (.list (xs.map f)) := by
  obtain ⟨vs, e, p⟩ := h
  exact .lst (SqL.of e) (dpAll hf p)
end
def okD : Nat → PyData → Prop
  | 0, _ => False
  | _ + 1, .none => True
  | _ + 1, .bool _ => True
  | _ + 1, .int _ => True
  | _ + 1, .str x => PyData.strOk x = true
  | n + 1, .list ds => ds.length ≤ 100000 ∧ ∀ d ∈ ds, okD n d
  | n + 1, .tuple ds => ds.length ≤ 100000 ∧ ∀ d ∈ ds, okD n d
  | _ + 1, _ => False
theorem okD.up : ∀ {n : Nat} {d : PyData}, okD n d → okD (n + 1) d
  | 0, _, h => h.elim
  | n + 1, .none, _ => trivial
  | n + 1, .bool _, _ => trivial
  | n + 1, .int _, _ => trivial
  | n + 1, .str _, h => h
  | n + 1, .list ds, h => ⟨h.1, fun d hd => okD.up (h.2 d hd)⟩
  | n + 1, .tuple ds, h => ⟨h.1, fun d hd => okD.up (h.2 d hd)⟩
theorem okD.ups {n : Nat} {d : PyData} (h : okD n d) : ∀ k, okD (n + k) d
  | 0 => h
  | k + 1 => okD.up (okD.ups h k)
mutual
theorem okD.lay : ∀ (n : Nat) (d : PyData), okD n d → d.canLay0 = true ∧ d.depth ≤ n
  | 0, _, h => h.elim
  | n + 1, .none, _ => ⟨rfl, by simp [PyData.depth]⟩
  | n + 1, .bool _, _ => ⟨rfl, by simp [PyData.depth]⟩
  | n + 1, .int _, _ => ⟨rfl, by simp [PyData.depth]⟩
  | n + 1, .str _, h => ⟨h, by simp [PyData.depth]⟩
  | n + 1, .list ds, h => by
    have := okD.layAll n ds h.2
    simp [PyData.canLay0, PyData.depth, this.1]
    omega
  | n + 1, .tuple ds, h => by
    have := okD.layAll n ds h.2
    simp [PyData.canLay0, PyData.depth, this.1]
    omega
theorem okD.layAll : ∀ (n : Nat) (ds : List PyData), (∀ d ∈ ds, okD n d) → PyData.canLayAll0 ds = true ∧ PyData.depthAll ds ≤ n
  | n, [], _ => ⟨rfl, by simp [PyData.depthAll]⟩
  | n, d :: ds, h => by
    have h1 := okD.lay n d (h d (List.mem_cons_self ..))
    have h2 := okD.layAll n ds fun e he => h e (List.mem_cons_of_mem _ he)
    simp [PyData.canLayAll0, PyData.depthAll, h1.1, h2.1]
    omega
end
theorem okD.shaped {n : Nat} {d : PyData} (h : okD n d) (hn : n ≤ 64) : SeqAt.shaped d = true := by
  have q := okD.lay n d h
  unfold SeqAt.shaped
  rw [q.1, decide_eq_true (Nat.le_trans q.2 hn)]
  rfl
theorem okD.eqv {n : Nat} {d : PyData} (h : okD n d) : PyData.eqv d d = true := SeqAt.eqv_refl d (okD.lay n d h).1
end Rs

namespace Rs
open PySem PySem.Spec PyProof.Rows L2
def RunAt (H0 : Hp) (S : List Addr) : Rel (List Pr) := fun H v xs => ∃ l, v = .ref l ∧ H0 l = none ∧ l ∉ S ∧ Lst PairAt H l xs
section
variable {H0 H H' : Hp} {S S' : List Addr} {v : V} {xs : List Pr} {x l lf : Addr} {found : List (List Pr)}
theorem RunAt.keep (h : RunAt H0 S H v xs) (t : TupLe H H') (k : ∀ l, H0 l = none → l ∉ S → ∀ o, H l = some o → H' l = some o) : RunAt H0 S H' v xs := let ⟨l, e, a, b, c⟩ := h; ⟨l, e, a, b, c.keep PairAt.st t (k l a b)⟩
theorem RunAt.sub (h : RunAt H0 S H v xs) (k : ∀ y ∈ S', y ∈ S) : RunAt H0 S' H v xs := let ⟨l, e, a, b, c⟩ := h; ⟨l, e, a, fun z => b (k _ z), c⟩
theorem RunAt.new (h : RunAt H0 S H v xs) (hx : H x = none) : RunAt H0 (x :: S) H v xs := by
  obtain ⟨l, e, a, b, c⟩ := h
  refine ⟨l, e, a, fun z => ?_, c⟩
  obtain ⟨vs, q, _⟩ := c
  rcases List.mem_cons.mp z with z | z
  · rw [z, hx] at q; cases q
  · exact b z
theorem Runs.sub (h : Lst (RunAt H0 S) H lf found) (k : ∀ y ∈ S', y ∈ S) : Lst (RunAt H0 S') H lf found := let ⟨vs, a, b⟩ := h; ⟨vs, a, P2.mono (fun _ _ q => q.sub k) b⟩
theorem Runs.new (h : Lst (RunAt H0 S) H lf found) (hx : H x = none) : Lst (RunAt H0 (x :: S)) H lf found := let ⟨vs, a, b⟩ := h; ⟨vs, a, P2.mono (fun _ _ q => q.new hx) b⟩
theorem Runs.same (h : Lst (RunAt H0 S) H lf found) (s : Same H H') : Lst (RunAt H0 S) H' lf found := let ⟨vs, a, b⟩ := h; ⟨vs, s _ _ a, P2.mono (fun _ _ q => q.keep (TupLe.same s) fun l _ _ => s l) b⟩
theorem Runs.put {ys : List V} {u : HO} (h : Lst (RunAt H0 S) H lf found) (hx : H x = some (.lst ys)) (hs : x ∈ S) (n : lf ≠ x) : Lst (RunAt H0 S) (upd H x u) lf found := let ⟨vs, a, b⟩ := h; ⟨vs, up a n, P2.mono (fun _ _ q => q.keep ((TupLe.refl H).list hx) fun l _ hl o e => up e fun z => hl (by rw [z]; exact hs)) b⟩
theorem Lst.off {ys : List V} {u : HO} (h : Lst PairAt H l xs) (hx : H x = some (.lst ys)) (n : l ≠ x) : Lst PairAt (upd H x u) l xs := h.keep PairAt.st ((TupLe.refl H).list hx) fun o e => up e n
theorem Lst.on {ys vs : List V} (hx : H l = some (.lst ys)) (p : Paired (PairAt H) vs xs) : Lst PairAt (upd H l (.lst vs)) l xs := ⟨vs, upd_same, Paired.tl PairAt.st ((TupLe.refl H).list hx) p⟩
end
structure LR (H0 H : Hp) (a b c d e : Addr) (left here late : List Pr) (found : List (List Pr)) (run : List Pr) : Prop where
  same : Same H0 H
  fr : ∀ x ∈ [a, b, c, d, e], H0 x = none
  nd : [a, b, c, d, e].Nodup
  la : Lst PairAt H a left
  lb : Lst PairAt H b here
  lc : Lst PairAt H c late
  ld : Lst (RunAt H0 [a, b, c, d, e]) H d found
  le : Lst PairAt H e run
section
variable {H0 H H' : Hp} {a b c d e : Addr} {left here late left' here' late' : List Pr} {found : List (List Pr)} {run run' : List Pr} {vs : List V}
theorem nd5 (h : [a, b, c, d, e].Nodup) : ((a ≠ b ∧ a ≠ c ∧ a ≠ d ∧ a ≠ e) ∧ (b ≠ c ∧ b ≠ d ∧ b ≠ e) ∧ (c ≠ d ∧ c ≠ e) ∧ d ≠ e) := by simpa using h
theorem LR.on (L : LR H0 H a b c d e left here late found run) (s : Same H H') : LR H0 H' a b c d e left here late found run := ⟨L.same.trans s, L.fr, L.nd, L.la.same PairAt.st s, L.lb.same PairAt.st s, L.lc.same PairAt.st s, Runs.same L.ld s, L.le.same PairAt.st s⟩
theorem LR.pb (L : LR H0 H a b c d e left here late found run) (p : Paired (PairAt H) vs here') : LR H0 (upd H b (.lst vs)) a b c d e left here' late found run := by
  obtain ⟨⟨ab, ac, ad, ae⟩, ⟨bc, bd, be⟩, ⟨cd, ce⟩, de⟩ := nd5 L.nd
  obtain ⟨ys, hx, _⟩ := L.lb
  exact ⟨Rs.Same.mut L.same (L.fr _ (by simp)), L.fr, L.nd, L.la.off hx ab, Lst.on hx p, L.lc.off hx bc.symm, Runs.put L.ld hx (by simp) bd.symm, L.le.off hx be.symm⟩
end
end Rs

namespace Rs
open PySem PySem.Spec PyProof.Rows L2
theorem KindsAt.st : Stable KindsAt := fun _ _ _ _ t h => IsTp.mono t h
theorem KindsAt.same {H H' : Hp} {v : V} {ks : List Str} (h : KindsAt H v ks) (s : Same H H') : KindsAt H' v ks := KindsAt.st _ _ _ _ (TupLe.same s) h
end Rs

namespace Rs
open PySem PySem.Spec PyProof.Rows L2
structure EX (K : PySem.W.Frag) (H0 H : Hp) (p lo pr lc a d e : Addr) (o : Ord) (size : Int) (cs : List Cell) (k : Int) (last : Option Pr) (left : List Pr) (found : List (List Pr)) (run : List Pr) : Prop where
  same : Same H0 H
  fr : ∀ x ∈ [p, lc, a, d, e], H0 x = none
  nd : [lc, a, d, e].Nodup
  mm : MakerS K H p lo pr lc o size cs k last
  la : Lst PairAt H a left
  ld : Lst (RunAt H0 [lc, a, d, e]) H d found
  le : Lst PairAt H e run
section
variable {K : PySem.W.Frag} {H0 H H' : Hp} {p lo pr lc a d e : Addr} {o : Ord} {size : Int} {cs cs' : List Cell} {k k' : Int} {last last' : Option Pr} {left left' : List Pr} {found : List (List Pr)} {run run' : List Pr} {vs : List V}
theorem MakerS.nl (M : MakerS K H p lo pr lc o size cs k last) {x : Addr} {ys : List V} (h : H x = some (.lst ys)) : x ≠ p ∧ x ≠ pr := by
  obtain ⟨vl, ⟨dx, e⟩, _⟩ := M.ob
  obtain ⟨dr, e2⟩ := M.room.ob
  exact ⟨ne_of h e (by intro z; cases z), ne_of h e2 (by intro z; cases z)⟩
theorem EX.on (L : EX K H0 H p lo pr lc a d e o size cs k last left found run) (s : Same H H') : EX K H0 H' p lo pr lc a d e o size cs k last left found run := ⟨L.same.trans s, L.fr, L.nd, L.mm.same s, L.la.same PairAt.st s, Runs.same L.ld s, L.le.same PairAt.st s⟩
theorem MakerS.put (M : MakerS K H p lo pr lc o size cs k last) (s0 : Same H0 H) {x : Addr} {ys vs : List V} (h : H x = some (.lst ys)) (n1 : x ≠ lc) (n2 : x ≠ lo) : MakerS K (upd H x (.lst vs)) p lo pr lc o size cs k last := by
  have t : TupLe H (upd H x (.lst vs)) := (TupLe.refl H).list h
  obtain ⟨vl, ob, hv⟩ := M.ob
  obtain ⟨xp, xr⟩ := M.nl h
  exact ⟨⟨vl, ob.keep fun u e => up e xp.symm, OptAt.st _ _ _ _ t hv⟩, ⟨M.room.ob.keep fun u e => up e xr.symm, M.room.ord.keep TurnAt.st t fun u e => up e n2.symm, M.room.cells.keep CellAt.st t fun u e => up e n1.symm, M.room.ne⟩, M.ne⟩
end
end Rs

namespace Rs
open PySem PySem.Spec PyProof.Rows L2
abbrev N_law_alike : List Str := ["_law_found", "_law_due", "_law_k"]
abbrev P_law_alike : List Str := ["_law_found", "_law_due"]
def okA : Nat → PyData → Prop
  | 0, _ => False
  | _ + 1, .none => True
  | _ + 1, .bool _ => True
  | _ + 1, .int _ => True
  | _ + 1, .str _ => True
  | n + 1, .list ds => ds.length ≤ 100000 ∧ ∀ d ∈ ds, okA n d
  | n + 1, .tuple ds => ds.length ≤ 100000 ∧ ∀ d ∈ ds, okA n d
  | _ + 1, _ => False
theorem okD.a : ∀ {n : Nat} {d : PyData}, okD n d → okA n d
  | 0, _, h => h.elim
  | n + 1, .none, _ => trivial
  | n + 1, .bool _, _ => trivial
  | n + 1, .int _, _ => trivial
  | n + 1, .str _, _ => trivial
  | n + 1, .list ds, h => ⟨h.1, fun d hd => okD.a (h.2 d hd)⟩
  | n + 1, .tuple ds, h => ⟨h.1, fun d hd => okD.a (h.2 d hd)⟩
theorem okA.up : ∀ {n : Nat} {d : PyData}, okA n d → okA (n + 1) d
  | 0, _, h => h.elim
  | n + 1, .none, _ => trivial
  | n + 1, .bool _, _ => trivial
  | n + 1, .int _, _ => trivial
  | n + 1, .str _, _ => trivial
  | n + 1, .list ds, h => ⟨h.1, fun d hd => okA.up (h.2 d hd)⟩
  | n + 1, .tuple ds, h => ⟨h.1, fun d hd => okA.up (h.2 d hd)⟩
theorem okA.ups {n : Nat} {d : PyData} (h : okA n d) : ∀ k, okA (n + k) d
  | 0 => h
  | k + 1 => okA.up (okA.ups h k)
theorem okA.to {n m : Nat} {d : PyData} (h : okA n d) (l : n ≤ m) : okA m d := by
  have := h.ups (m - n)
  rwa [show n + (m - n) = m by omega] at this
def spr_law_alike (K : PySem.W.Frag) (n : Nat) : Sp := fun vs H Q E => match vs with
  | [x, y] => ∃ d, okA n d ∧ Dp K H x d ∧ Dp K H y d ∧ Q (.bl true) H
  | _ => False
abbrev sp_law_alike (K : PySem.W.Frag) : Sp := spr_law_alike K 45
theorem len_law_alike (K : PySem.W.Frag) : ∀ d vs H Q E, spr_law_alike K d vs H Q E → vs.length = 2 := fun d vs H Q E h => by
  unfold spr_law_alike at h
  match vs, h with
  | [_, _], _ => rfl
theorem no_law_alike (K : PySem.W.Frag) : ∀ vs H Q E, ¬ spr_law_alike K 0 vs H Q E := fun vs H Q E h => by
  unfold spr_law_alike at h
  match vs, h with
  | [_, _], ⟨d, h, _⟩ => exact h
def t_law_alike (K : PySem.W.Frag) (sp : Sp) (E : XK) : TS := (tSeq (tIfS (tTest (tOpC rIsN (tVar 1) .non)) (tRet (tOpC rIsN (tVar 0) .non)) tNext)
  (tSeq (tIfS (tB (tIsi K "bool" (tVar 1))) (tRet (tAndV (tIsi K "bool" (tVar 0)) (tOp rEq (tVar 0) (tVar 1)))) tNext)
   (tSeq (tIfS (tB (tIsi K "int" (tVar 1))) (tRet (tAndV (tIsi K "int" (tVar 0)) (tAndV (tNotV (tIsi K "bool" (tVar 0))) (tOp rEq (tVar 0) (tVar 1))))) tNext)
    (tSeq (tIfS (tB (tIsi K "str" (tVar 1))) (tRet (tAndV (tIsi K "str" (tVar 0)) (tOp rEq (tVar 0) (tVar 1)))) tNext)
     (tSeq (tIfS (tOr (tTest (tOp rNe (tIsi K "tuple" (tVar 1)) (tIsi K "tuple" (tVar 0)))) (tTest (tOp rNe (tIsi K "list" (tVar 1)) (tIsi K "list" (tVar 0))))) (tRet (tC (.bl false))) tNext)
      (tSeq (tIfS (tTest (tOp rNe (tCB1 (xLen K) (tVar 0)) (tCB1 (xLen K) (tVar 1)))) (tRet (tC (.bl false))) tNext)
       (tSeq (tFor (iRng1 (tCons (tCB1 (xLen K) (tVar 1)) tNil)) (gName 2) 
          (tIfS (tNot (tB (tCall sp [] E (tCons (tOp (rIx K) (tVar 0) (tVar 2)) (tCons (tOp (rIx K) (tVar 1) (tVar 2)) tNil))))) (tRet (tC (.bl false))) tNext))
        (tRet (tC (.bl true))))))))))
theorem tyL {K : PySem.W.Frag} {H : Hp} {a : Addr} {xs : List V} (h : SqL K H a xs) : TyX K H (.ref a) (.type "list") := by
  rcases h with (h | ⟨o, h⟩) | ⟨o, its, n, h, c, _⟩
  · exact .base (.lst h)
  · exact .base (.frz h)
  · exact .kList h c
theorem tyT {K : PySem.W.Frag} {H : Hp} {a : Addr} {xs : List V} (h : SqT K H a xs) : TyX K H (.ref a) (.type "tuple") := by
  rcases h with (h | ⟨o, h⟩) | ⟨o, its, n, h, c, _⟩
  · exact .base (.tup h)
  · exact .fTuple h
  · exact .kTuple h c
theorem dpAll_len {K : PySem.W.Frag} {H : Hp} : ∀ {vs : List V} {ds : List PyData}, DpAll K H vs ds → vs.length = ds.length
  | _, _, .nil => rfl
  | _, _, .cons _ t => by rw [List.length_cons, List.length_cons, dpAll_len t]
theorem dpAll_get {K : PySem.W.Frag} {H : Hp} : ∀ {vs : List V} {ds : List PyData}, DpAll K H vs ds → ∀ {i : Nat} {d : PyData}, ds[i]? = some d → ∃ v, vs[i]? = some v ∧ Dp K H v d
  | _, _, .nil, _, _, e => by simp at e
  | _, _, .cons h t, 0, d, e => by simp at e; subst e; exact ⟨_, rfl, h⟩
  | _, _, .cons h t, i + 1, d, e => by simpa using dpAll_get t (i := i) (by simpa using e)
theorem pure_law_alike {K : PySem.W.Frag} (d : Nat) : ∀ vs H Q E, spr_law_alike K (d + 1) vs H Q E → t_law_alike K (spr_law_alike K d) E { nx := fun _ H' => Q .non H', rt := Q } (start N_law_alike vs) H := by
  intro vs H Q E h
  unfold spr_law_alike at h
  match vs, h with
  | [x, y], ⟨z, ok, hx, hy, k⟩ =>
    -- two rows of items
    have tail : ∀ (a b : Addr) (xs ys : List V) (ds : List PyData), (SqL K H a xs ∨ SqT K H a xs) → (SqL K H b ys ∨ SqT K H b ys) → DpAll K H xs ds → DpAll K H ys ds → ds.length ≤ 100000 → (∀ e ∈ ds, okA d e) →
        ((tSeq (tIfS (tTest (tOp rNe (tCB1 (xLen K) (tVar 0)) (tCB1 (xLen K) (tVar 1)))) (tRet (tC (.bl false))) tNext)
          (tSeq (tFor (iRng1 (tCons (tCB1 (xLen K) (tVar 1)) tNil)) (gName 2) (tIfS (tNot (tB (tCall (spr_law_alike K d) [] E (tCons (tOp (rIx K) (tVar 0) (tVar 2)) (tCons (tOp (rIx K) (tVar 1) (tVar 2)) tNil))))) (tRet (tC (.bl false))) tNext))
            (tRet (tC (.bl true))))) : TS) { nx := fun _ H' => Q .non H', rt := Q } [some (.ref a), some (.ref b), none] H := by
      intro a b xs ys ds ha hb dx dy hl hok
      have lx := dpAll_len dx
      have ly := dpAll_len dy
      refine ⟨_, rfl, a, xs, rfl, ha, _, rfl, b, ys, rfl, hb, rfl, _, rfl, ?_⟩
      have e : (!decide (V.int (xs.length : Int) = V.int (ys.length : Int))) = false := by rw [lx, ly]; simp
      rw [e]
      refine ⟨_, rfl, b, ys, rfl, hb, _, rfl, by omega, by omega, ?_⟩
      refine for_range (lo := 0) (n := (ys.length : Int).toNat) (fun i σ H' => H' = H ∧ ∃ x2, σ = [some (.ref a), some (.ref b), x2]) ⟨rfl, none, rfl⟩ ?_ ?_
      · rintro i σ H' hi ⟨rfl, x2, rfl⟩
        have hid : i < ds.length := by omega
        have hd := List.getElem?_eq_getElem hid
        obtain ⟨vx, gx, px⟩ := dpAll_get dx hd
        obtain ⟨vy, gy, py⟩ := dpAll_get dy hd
        have ix : ∀ {a : Addr} {xs : List V} {v : V} {Q : VK}, (SqL K H' a xs ∨ SqT K H' a xs) → xs[i]? = some v → Q v H' → rIx K (.ref a) (.int (0 + (i : Int))) H' Q := fun h g q => by
          rcases h with h | h
          · exact .inl ⟨_, _, _, _, rfl, rfl, h, at_of (j := i) (by omega) g, q⟩
          · exact .inr (.inl ⟨_, _, _, _, rfl, rfl, h, at_of (j := i) (by omega) g, q⟩)
        refine ⟨_, rfl, _, rfl, ix ha gx ⟨_, rfl, _, rfl, ix hb gy ?_⟩⟩
        exact ⟨ds[i], hok _ (List.getElem_mem hid), px, py, _, rfl, rfl, _, rfl⟩
      · rintro σ H' ⟨rfl, x2, rfl⟩
        exact k
    cases hx with
    | non =>
      cases hy
      exact ⟨_, rfl, rfl, _, rfl, _, rfl, rfl, k⟩
    | bl b =>
      cases hy
      refine ⟨_, rfl, rfl, _, rfl, _, rfl, isi_go (t := "bool") (b := true) (.base (.bl b)) (by decide +kernel) ⟨_, rfl, _, rfl, isi_go (t := "bool") (b := true) (.base (.bl b)) (by decide +kernel) ⟨_, rfl, _, rfl, _, rfl, rfl, ?_⟩⟩⟩
      rw [decide_eq_true rfl]
      exact k
    | int b =>
      cases hy
      refine ⟨_, rfl, rfl, _, rfl, _, rfl, isi_go (t := "int") (b := false) (.base (.int b)) (by decide +kernel) ⟨_, rfl, _, rfl, isi_go (t := "int") (b := true) (.base (.int b)) (by decide +kernel) ⟨_, rfl, _, rfl, isi_go (t := "int") (b := true) (.base (.int b)) (by decide +kernel) ⟨_, rfl, _, rfl, isi_go (t := "int") (b := false) (.base (.int b)) (by decide +kernel) ⟨_, rfl, _, rfl, _, rfl, _, rfl, rfl, ?_⟩⟩⟩⟩⟩
      rw [decide_eq_true rfl]
      exact k
    | str b =>
      cases hy
      refine ⟨_, rfl, rfl, _, rfl, _, rfl, isi_go (t := "str") (b := false) (.base (.str b)) (by decide +kernel) ⟨_, rfl, _, rfl, isi_go (t := "str") (b := false) (.base (.str b)) (by decide +kernel) ⟨_, rfl, _, rfl, isi_go (t := "str") (b := true) (.base (.str b)) (by decide +kernel) ⟨_, rfl, _, rfl, isi_go (t := "str") (b := true) (.base (.str b)) (by decide +kernel) ⟨_, rfl, _, rfl, _, rfl, rfl, ?_⟩⟩⟩⟩⟩
      rw [decide_eq_true rfl]
      exact k
    | @lst a xs ds sx dx =>
      cases hy with
      | @lst b ys _ sy dy =>
        obtain ⟨hl, hok⟩ : ds.length ≤ 100000 ∧ ∀ e ∈ ds, okA d e := ok
        refine ⟨_, rfl, rfl, _, rfl, _, rfl, isi_go (t := "list") (b := false) (tyL sy) (by decide +kernel) ⟨_, rfl, _, rfl, isi_go (t := "list") (b := false) (tyL sy) (by decide +kernel) ⟨_, rfl, _, rfl, isi_go (t := "list") (b := false) (tyL sy) (by decide +kernel) ⟨_, rfl, ?_⟩⟩⟩⟩
        refine ⟨_, rfl, isi_go (t := "list") (b := false) (tyL sy) (by decide +kernel) ⟨_, rfl, isi_go (t := "list") (b := false) (tyL sx) (by decide +kernel) ⟨rfl, _, rfl, _, rfl, isi_go (t := "list") (b := true) (tyL sy) (by decide +kernel) ⟨_, rfl, isi_go (t := "list") (b := true) (tyL sx) (by decide +kernel) ⟨rfl, _, rfl, ?_⟩⟩⟩⟩⟩
        exact tail a b xs ys ds (.inl sx) (.inl sy) dx dy hl hok
    | @tup a xs ds sx dx =>
      cases hy with
      | @tup b ys _ sy dy =>
        obtain ⟨hl, hok⟩ : ds.length ≤ 100000 ∧ ∀ e ∈ ds, okA d e := ok
        refine ⟨_, rfl, rfl, _, rfl, _, rfl, isi_go (t := "tuple") (b := false) (tyT sy) (by decide +kernel) ⟨_, rfl, _, rfl, isi_go (t := "tuple") (b := false) (tyT sy) (by decide +kernel) ⟨_, rfl, _, rfl, isi_go (t := "tuple") (b := false) (tyT sy) (by decide +kernel) ⟨_, rfl, ?_⟩⟩⟩⟩
        refine ⟨_, rfl, isi_go (t := "tuple") (b := true) (tyT sy) (by decide +kernel) ⟨_, rfl, isi_go (t := "tuple") (b := true) (tyT sx) (by decide +kernel) ⟨rfl, _, rfl, _, rfl, isi_go (t := "tuple") (b := false) (tyT sy) (by decide +kernel) ⟨_, rfl, isi_go (t := "tuple") (b := false) (tyT sx) (by decide +kernel) ⟨rfl, _, rfl, ?_⟩⟩⟩⟩⟩
        exact tail a b xs ys ds (.inr sx) (.inr sy) dx dy hl hok
end Rs

namespace Rs
open PySem PySem.Spec PyProof.Rows L2
theorem Lst.but {α : Type} {R : Rel α} (st : Stable R) {H H' : Hp} {a l x : Addr} {xs : List α} (B : Box H a l) (k : But [a, l] H H') (L : Lst R H x xs) (n : x ∉ [a, l]) : Lst R H' x xs := L.keep st (B.tup k) fun o e => k _ _ e n
theorem Box.fresh {H : Hp} {a l x : Addr} (B : Box H a l) (h : H x = none) : x ∉ [a, l] := by
  obtain ⟨ns, z, e1, e2, _⟩ := B.ex
  exact nn (ne_of_none e1 h).symm (ne_of_none e2 h).symm
theorem GoodOrd.len {ks : List Str} {o : Ord} (g : GoodOrd ks o) (h : ks.length ≤ 4) : o.length ≤ 4 := by
  have nd := g.nd
  have sub : (o.map (·.1)) ⊆ List.range ks.length := fun x hx => by
    obtain ⟨t, ht, rfl⟩ := List.mem_map.mp hx
    exact List.mem_range.mpr (g.col t ht)
  have := nd.length_le_of_subset sub
  rw [List.length_map, List.length_range] at this
  omega
end Rs

namespace Rs
open PySem PySem.Spec PyProof.Rows L2
section
variable {X : Cx} {W : WX} {E : XK} {k : Nat} {ps : List Str} {sp : Sp} {x m : Str} {e : Expr} {es : List Expr} {t : TA} {p p2 pos pos2 : Pos} {j : Nat}
theorem ps_raiseE (c : PySem.W.excIn X.K (He.ga X.K x) He.veBase "ValueError.__new__" = true ∧ PySem.W.keepIn X.K (.ref (He.ga X.K x)) = true ∧ PySem.W.subIn X.K (.ref (He.ga X.K x)) (.type "BaseException") = some true ∧ PySem.W.typeIn X.K (.ref (He.ga X.K x)) = some (.type "type"))
    (gC : X.mg x = some (.ref (He.ga X.K x))) (hg : Gl X x) (hc : X.calm = true) (tk : Takes X (fun cls d _ H => E cls d H)) (hdb : (x == ("__debug__" : Str)) = false := by decide) :
    PS X (.Raise (some (.Call (.Name x p) [.Constant (.str m) j p2] [] pos)) none pos2) (tRaise E (.ref (He.ga X.K x))) :=
  ps_raise hc tk (pmk_own PySem.F.excBase_ValueError c.1 gC c.2.1 (raises_own c.2.2.1 c.2.2.2) hg hdb)
end
section
variable {X : Cx} {E : XK} {x : Str} {body suite : List Stmt} {b₀ : Stmt} {np pos pos' : Pos} {tb : WX → TS} {ts : TS}
end
end Rs

namespace Rs
open PySem PySem.Spec PyProof.Rows L2 LamX
section
variable {P : Program} {w : World} {K : PySem.W.Frag} {mg : Str → Option Value} {base : Heap}
abbrev cxP (P : Program) (w : World) (K : PySem.W.Frag) (mg : Str → Option Value) (base : Heap) (N : List Str) (ql : Str) (sc : Scope) (g : Addr) (cd : Value) (A : Around) (outer : List Env) (z : Shared) (H : Hp) (a : Addr) (oe : Obj) : Cx :=
  L2H.cxH CX0 P w K mg base N ql sc g cd A outer z H E0 (a, oe)
theorem warm_call {k : Nat} {g : Addr} {nm ql : Str} {pr : Arguments} {bd : List Stmt} {sc : Scope} {dV kV doc pm cdv ct oc : Value} {an od : Option Addr} {osl : Array (Option Value)} {N : List Str} {y : Str} {A : Around} {outer : List Env} {z : Shared} {H : Hp} {Q : VK} {a : Addr} {oe : Obj} {t : TS}
    (lk : K.lookup g = some ⟨oc, od, .func (PySem.W.fnOf nm ql pr bd sc dV kV doc pm an cdv ct), osl⟩) (hcd : PySem.W.codeIn K cdv ql = true) (S : FnScope N [y] sc) (hr : L2H.RoomH (k + 1) A) (e0 : Env0 P w K mg base A outer z H) (hpin : L2H.PinOk outer H z (a, oe))
    (hb : BindsTo z (PySem.W.fnOf nm ql pr bd sc dV kV doc pm an cdv ct) ⟨[.ref a], []⟩ [(y, .ref a)]) (hbody : PSs (cxP P w K mg base N ql sc g cdv A outer z H a oe) bd t) (hq : t { nx := fun _ H' => Q .non H', rt := Q } (L2.start N [.ref a]) H) :
    codeAny (model P w) A (.call (.ref g) ⟨[.ref a], []⟩) (CR CX0 outer P w H z Q E0) z := by
  have KZ : K.In z.heap := e0.mod.kin.keeps fun b o e => (e0.bs b o e).1
  have lm : z.heap.NoLimit := e0.mod.nolimit.keeps fun b o e => (e0.bs b o e).1
  have hk : ∀ n ∈ [(y, Value.ref a)], sc.names.lookup n.1 = some .local ∨ (sc.names.lookup n.1 = some .cell ∧ ((cellsFrom (z.heap.objs.size + 1) sc.names []).lookup n.1).isSome = true) := fun n hn => by
    have en : n = (y, Value.ref a) := by simpa using hn
    rw [en]
    rcases S.par y (by simp) with q | q
    · exact .inl q
    · exact .inr ⟨q, PySem.W.cellsFrom_some _ _ _ (.inl q)⟩
  refine codeAny_call_function hr.depth (KZ _ _ lk) rfl S.co S.gen rfl (PySem.W.codeRec_of KZ hcd) (hb _ _ _ _ (wpAny_newFunctionEnv_cells S.kind hk fun env he z1 x => ?_))
  subst he
  refine ⟨lm.keeps x.toInCall.keep, codeAny_func (wpAny_mono (hbody.run [] z1 (L2.start N [.ref a]) H _ (L2H.inv_startH (us := [.ref a]) (vs := [.ref a]) S hpin e0 rfl (.cons rfl .nil) x) hq) (fun fl z' hs => ?_) fun e z' hs => hs)⟩
  cases fl with
  | ret u =>
    obtain ⟨v, σ', H', J, rv, q⟩ := hs
    exact ⟨v, H', J.os, J.bare, J.base, J.hok, rv, q⟩
  | next =>
    obtain ⟨σ', H', J, q⟩ := hs
    exact ⟨.non, H', J.os, J.bare, J.base, J.hok, rfl, q⟩
  | brk => exact hs.elim fun _ h => h.elim fun _ h => h.2.elim
  | cont => exact hs.elim fun _ h => h.elim fun _ h => h.2.elim
end
section
variable {prog : Program} {w : World} {A : Around} {E : Value → Shared → Prop} {z : Shared} {K : PySem.W.Frag} {p D : Addr} {op : Obj} {od : Option Obj}
open PySem.W PySem.Calls in
theorem found_class (C : ExcC K D) : findObj K D od "__class__" = some (.bind (.builtin "getset_descriptor.__get__") (.builtin "object.__class__")) := by
  obtain ⟨cd, hc, _⟩ := any_some C.hd
  have e1 := C.ha
  have e2 := C.hn
  have e3 := C.ht
  unfold findObj
  rw [hc, Option.bind_some, e1, Option.bind_some]
  simp [e2, e3]
open PySem.W PySem.Calls in
theorem ask_class {Q : Option Value → Shared → Prop} (C : ExcC K D) (KI : K.In z.heap) (J : InstAt z.heap p op D od) (q : Q (some (.ref D)) { z with toks := z.toks + 1 }) : wpAny (model prog w) A (getAttr? (.ref p) "__class__") Q E z := by
  have fo := found_class (od := od) C
  obtain ⟨hp, gs, dr, tk, ou⟩ := z
  have a0 := J.type (M := model prog w)
  have a1 := looks_findIn (M := model prog w) KI C.hg
  have a2 := looks_findIn (M := model prog w) KI C.hk
  have a3 := looks_find (M := model prog w) KI J fo
  have up : Looks (model prog w) hp (isInstance (.ref p) (.type "BaseException")) true := a0.andThen (looks_subIn KI C.hs)
  have no : (Value.builtin "BaseException.__getattribute__" == Value.builtin "object.__getattribute__") = false := by decide +kernel
  have no2 : (onTheHeap (Value.ref D) && Value.builtin "BaseException.__getattribute__" == Value.builtin "object.__getattribute__") = false := by rw [no]; rfl
  unfold getAttr?
  unfold getAttrBy? getAttrBy
  refine wpAny_bind (wpAny_mkText (wpAny_bind (wpAny_attempt (wpAny_holding (wpAny_bind (a0.at (wpAny_bind (a1.at ?_))))))))
  show wpAny _ _ (if (onTheHeap (Value.ref D) && Value.builtin "BaseException.__getattribute__" == Value.builtin "object.__getattribute__") = true then _ else _) _ _ _
  rw [no2, if_neg Bool.false_ne_true]
  unfold getAttrByItsOwn
  unfold hookBefore
  refine wpAny_bind ?_
  rw [if_pos (show onTheHeap (.ref D) = true from rfl)]
  refine a2.at (wpAny_bind (wpAny_attempt (wpAny_holding ?_)))
  unfold callGetattribute
  rw [show (false && onTheHeap (Value.builtin "BaseException.__getattribute__")) = false from rfl, if_neg Bool.false_ne_true]
  unfold boundAndCalled
  rw [PySem.F.excAttr_ValueError.ga.bind (.ref p)]
  refine wpAny_bind (wpAny_pure (wpAny_call (codeAny_call_builtin PySem.F.excAttr_ValueError.ga.plain PySem.F.entry_bexc_ga ?_)))
  refine @check_slot (model prog w) _ _ ⟨hp, gs, dr, tk + 1, ou⟩ "BaseException.__getattribute__" "BaseException" "__getattribute__" (.ref p) [.str "__class__" tk] [] _ (by decide +kernel) (by decide +kernel) up (PySem.F.args_bexc_ga (.ref p) (.str "__class__" tk)) ?_
  delta Builtin.«object.__getattribute__»
  refine wpAny_bind (wpAny_of_eq (a := ((Value.ref p : Value), [Value.str "__class__" tk])) (by first | rfl | (simp only [slotArgs]; rfl)) ?_)
  refine wpAny_bind (wpAny_pure (wpAny_bind (a0.at (wpAny_bind (a3.at ?_)))))
  refine wpAny_bind (wpAny_holding (wpAny_call (class_get (s := ⟨hp, gs, dr, tk + 1, ou⟩) (ox := op) (od := od) KI J C.hm ?_)))
  refine wpAny_pure ?_
  refine (show wpAny _ _ (handedOut (Value.ref D)) _ _ _ from ?_)
  rw [handedOut_of (v := Value.ref D) rfl]
  first
    | exact wpAny_pure (wpAny_pure q)
    | exact wpAny_pure q
    | exact wpAny_pure (wpAny_bind (wpAny_pure (wpAny_pure q)))
open PySem.W PySem.Calls in
theorem kit_err (C : ExcC K D) : KitX K (.ref p) (.ref D) (fun h => InstAt h p op D od) := by
  have base := handS_kitx_exc (x := p) (ox := op) C.hg C.hk C.hs C.hd C.ha C.hn C.ht C.hm
  exact ⟨fun _ _ _ J => J.type, fun M h KI J => (by
    obtain ⟨cd, hc, _⟩ := any_some C.hd
    unfold clsIn at hc
    split at hc
    · rename_i ho
      intro A' Q' E' z' k q
      unfold isType loadHead
      exact wpAny_bind (wpAny_loadPart (k _ _ (KI _ _ ho)) (wpAny_pure q))
    · cases hc), base.ne, fun KI J q => ask_class C KI J q⟩
end
def DictOk (d : Option Addr) (H : Hp) : Prop := ∀ dd, d = some dd → ∃ fs, H dd = some (.xd fs)
def rIsX (K : PySem.W.Frag) (D a : Addr) (d : Option Addr) : List V → Hp → VK → Prop := fun xs H Q => ∃ (c : V) (cv : Value) (b : Bool), xs = [.ref a, c] ∧ (∀ u, RelV c u → u = cv) ∧ PySem.W.kitOne K (.ref D) cv = some b ∧ DictOk d H ∧ Q (.bl b) H
section
variable {X : Cx} {a D : Addr} {oe : Obj} {pn : List (Addr × Obj)}
theorem pe_gref {x : Str} {p : Pos} (hg : Gl X x) (hm : X.mg x = some (.ref (He.ga X.K x))) (hd : (x == ("__debug__" : Str)) = false := by decide) : PE X (.Name x p) (tC (.ref (He.ga X.K x))) :=
  ⟨fun _ _ _ H _ I h => ld_glob I hg hm ⟨.ref _, H, I, rfl, h⟩ hd⟩
theorem call_isP {d : Option Addr} (C : ExcC X.K D) (hz : Zc (.ref D) d oe) (hf : ∃ vs, oe.data = .fields vs) (hp : (a, oe) ∈ X.pn) : CallR X (.builtin "isinstance") (rIsX X.K D a d) := by
  intro pins z σ H xs us Q I r h
  obtain ⟨c, cv, b, rfl, hcv, e, hd, q⟩ := h
  obtain ⟨u1, ur, rfl, rx, rr⟩ : ∃ u1 ur, us = u1 :: ur ∧ RelV (.ref a) u1 ∧ Vals [c] ur := by
    cases r with
    | cons rx rr => exact ⟨_, _, rfl, rx, rr⟩
  obtain ⟨u2, rfl, rt⟩ : ∃ u2, ur = [u2] ∧ RelV c u2 := by
    cases rr with
    | cons rt r0 =>
      cases r0
      exact ⟨_, rfl, rt⟩
  obtain rfl : u1 = Value.ref a := rx
  obtain rfl := hcv _ rt
  have hget := (I.pin (a, oe) (List.mem_append_left _ hp)).1
  obtain ⟨vs, hv⟩ := hf
  have nc : PySem.W.notCls oe := by unfold PySem.W.notCls; rw [hv] <;> rfl
  obtain ⟨od, J⟩ : ∃ od, PySem.W.InstAt z.heap a oe D od := by
    cases ed : d with
    | none => exact ⟨none, hget, hz.1, nc, by rw [hz.2, ed]; trivial⟩
    | some dd =>
      obtain ⟨fs, hH⟩ := hd dd ed
      have hx : ObjOk X.prog X.w H z.heap dd (.xd fs) := I.hok dd _ hH
      obtain ⟨mA, hns, _⟩ := hx
      obtain ⟨od, ho, _⟩ := lookIn_ns hns
      exact ⟨some od, hget, hz.1, nc, by rw [hz.2, ed]; exact ho⟩
  exact PySem.W.kia_one (kit_err C) I.kIn J e (fun y => nomatch y) fun tk => ⟨.bl b, H, I.kept (t' := tk) fun _ _ y => y, rfl, q⟩
theorem pe_warm {k : Nat} {g : Addr} {x y : Str} {pr : Arguments} {bd : List Stmt} {sc : Scope} {dV kV doc pm cdv ct oc : Value} {an od : Option Addr} {osl : Array (Option Value)} {N : List Str} {e : Expr} {te : TE} {t : TS} {p pos : Pos}
    (lk : X.K.lookup g = some ⟨oc, od, .func (PySem.W.fnOf x x pr bd sc dV kV doc pm an cdv ct), osl⟩) (hcd : PySem.W.codeIn X.K cdv x = true) (S : FnScope N [y] sc) (hr : L2H.RoomH (k + 1) X.A) (hp : (a, oe) ∈ X.pn)
    (hb : L2.Binds X.K (PySem.W.fnOf x x pr bd sc dV kV doc pm an cdv ct) [y] []) (hg : Gl X x) (hm : X.mg x = some (.ref g)) (hk : PySem.W.keepIn X.K (.ref g) = true)
    (hbody : ∀ (z : Shared) (H : Hp), PSs (cxP X.prog X.w X.K X.mg X.base N x sc g cdv X.A X.stack z H a oe) bd t) (he : PE X e te) (hdb : (x == ("__debug__" : Str)) = false := by decide)
    (hst : starEach [e] X.env = [(false, eval e X.env)] := by rfl) (hpl : (backTo pos (starEach [] X.env)).any (·.1) = false := by rfl) :
    PE X (.Call (.Name x p) [e] [] pos) (fun σ H Q => te σ H fun v H1 => v = .ref a ∧ t { nx := fun _ H' => Q .non H', rt := Q } (L2.start N [.ref a]) H1) := by
  refine ⟨fun pins z σ H Q I h => wpAny_Call_Name_kw (ld_glob I hg hm ?_ hdb)⟩
  let R : List V → Hp → Prop := fun vs H1 => match vs with
    | [v] => v = .ref a ∧ t { nx := fun _ H' => Q .non H', rt := Q } (L2.start N [.ref a]) H1
    | _ => False
  have ha : PA X [e] (tCons te tNil) := pa_cons he pa_nil hst
  refine PySem.W.callWith_K (h₀ := X.base) I.ok.mod.kin hk (thn (ha.run pos pins z σ H R I h) fun us z1 hh => ?_) hst hpl
  obtain ⟨vs, H1, I1, r1, q1⟩ := hh
  cases r1 with
  | nil => exact q1.elim
  | cons rv rr =>
    cases rr with
    | cons _ _ => exact q1.elim
    | nil =>
      obtain ⟨ev, ht⟩ := q1
      subst ev
      obtain rfl := rv
      have pin := I1.pin (a, oe) (List.mem_append_left _ hp)
      have hpin : L2H.PinOk X.stack H1 z1 (a, oe) := ⟨pin.1, pin.2.1, fun hm' => (List.mem_cons.mp (I1.stkSub a hm')).elim pin.2.2.1 pin.2.2.2.1, pin.2.2.2.2⟩
      refine ⟨I1.kIn, wpAny_call (codeAny_mono (warm_call lk hcd S hr I1.env0 hpin (hb z1 [.ref a] I1.kIn rfl) (hbody z1 H1) ht) fun r z2 hq => ?_)⟩
      cases r with
      | error err => exact False.elim hq
      | ok fl =>
        cases fl with
        | ret u => exact I1.after hq
        | next => exact False.elim hq
        | brk => exact False.elim hq
        | cont => exact False.elim hq
end
structure ErrIs (K : PySem.W.Frag) (x : Str) : Prop where
  mem : x ∈ errNames
  c : ExcC K (He.ga K x)
  k : ∀ y ∈ errNames, PySem.W.kitOne K (.ref (He.ga K x)) (.ref (He.ga K y)) = some (decide (x = y))
  v : PySem.W.kitOne K (.ref (He.ga K x)) (.type "ValueError") = some true
  s : PySem.W.exmOne K (.ref (He.ga K x)) (.ref (He.ga K "SortError")) = some true
theorem excCB_ok {K : PySem.W.Frag} {D : Addr} (h : excCB K D = true) : ExcC K D := by
  unfold excCB at h
  simp only [Bool.and_eq_true, decide_eq_true_eq] at h
  obtain ⟨h1, h2, h3, h4, h5, h6, h7, h8⟩ := h
  exact ⟨h1, h2, h3, h4, h5, h6, h7, h8⟩
theorem errB_ok {K : PySem.W.Frag} {x : Str} (h : errB x K = true) : ErrIs K x := by
  unfold errB at h
  simp only [Bool.and_eq_true, decide_eq_true_eq, List.all_eq_true] at h
  obtain ⟨h1, h2, h3, h4, h5⟩ := h
  exact ⟨h1, excCB_ok h2, h3, h4, h5⟩
def ErrNo (K : PySem.W.Frag) (x : Str) (d : Option Addr) (H : Hp) (v : V) : Prop :=
  if x = "BadRuns" ∨ x = "BadRows" ∨ x = "BadText" then ∃ dd fs, XfC K (He.ga K x) ∧ PySem.W.findIn K (.ref (He.ga K x)) (if x = "BadRuns" then ("number" : Str) else "place") = some none ∧ d = some dd ∧ H dd = some (.xd fs) ∧ fs.lookup (if x = "BadRuns" then ("number" : Str) else "place") = some v
  else d = none ∧ v = .int 0
def rErr (K : PySem.W.Frag) (cls : Value) (d : Option Addr) (H : Hp) (Q : VK) : Prop := ∃ x v, cls = .ref (He.ga K x) ∧ ErrIs K x ∧ ErrNo K x d H v ∧
  ∀ p H', H p = none → (∀ b o, H b = some o → H' b = some o) → H' p = some (.tup [.str x, v]) → Q (.ref p) H'
def tWarm (K : PySem.W.Frag) (i : Nat) (a : Addr) (cls : Value) (d : Option Addr) (N : List Str) (t : Addr → Addr → Option Addr → TS) : TE := fun σ H Q => σ[i]? = some (some (.ref a)) ∧ ∃ D, cls = .ref D ∧ ExcC K D ∧ t D a d { nx := fun _ H' => Q .non H', rt := Q } (L2.start N [.ref a]) H
def tErrF (K : PySem.W.Frag) (i : Nat) (a : Addr) (cls : Value) (d : Option Addr) (n : Str) : TE := fun σ H Q => σ[i]? = some (some (.ref a)) ∧ ∃ C dd fs v, cls = .ref C ∧ XfC K C ∧ PySem.W.findIn K (.ref C) n = some none ∧ d = some dd ∧ H dd = some (.xd fs) ∧ fs.lookup n = some v ∧ Q v H
structure WarmFn (P : Program) (w : World) (K : PySem.W.Frag) (mg : Str → Option Value) (base : Heap) (x : Str) (N : List Str) (t : Addr → Addr → Option Addr → TS) : Prop where
  ex : ∃ (y : Str) (g : Addr) (pr : Arguments) (bd : List Stmt) (sc : Scope) (dV kV doc pm cdv ct oc : Value) (an od : Option Addr) (osl : Array (Option Value)),
    K.lookup g = some ⟨oc, od, .func (PySem.W.fnOf x x pr bd sc dV kV doc pm an cdv ct), osl⟩ ∧ PySem.W.codeIn K cdv x = true ∧ FnScope N [y] sc ∧ L2.Binds K (PySem.W.fnOf x x pr bd sc dV kV doc pm an cdv ct) [y] [] ∧ mg x = some (.ref g) ∧ PySem.W.keepIn K (.ref g) = true ∧
    ∀ (D a : Addr) (d : Option Addr) (oe : Obj), ExcC K D → Zc (.ref D) d oe → (∃ vs, oe.data = .fields vs) → ∀ (A : Around) (outer : List Env) (z : Shared) (H : Hp), PSs (cxP P w K mg base N x sc g cdv A outer z H a oe) bd (t D a d)
section
variable {X : Cx} {a : Addr} {cls : Value} {d : Option Addr} {oe : Obj} {pn : List (Addr × Obj)} {i : Nat} {n : Str} {p p2 pos : Pos}
theorem pe_warmV {k : Nat} {x : Str} {N : List Str} {t : Addr → Addr → Option Addr → TS} (F : WarmFn X.prog X.w X.K X.mg X.base x N t) (hr : L2H.RoomH (k + 1) X.A) (hp : (a, oe) ∈ X.pn) (hz : Zc cls d oe) (hf : ∃ vs, oe.data = .fields vs) (hg : Gl X x) (he : PE X (.Name n p2) (tVar i))
    (hdb : (x == ("__debug__" : Str)) = false := by decide) (hst : starEach [.Name n p2] X.env = [(false, eval (.Name n p2) X.env)] := by rfl) (hpl : (backTo pos (starEach [] X.env)).any (·.1) = false := by rfl) :
    PE X (.Call (.Name x p) [.Name n p2] [] pos) (tWarm X.K i a cls d N t) := by
  refine ⟨fun pins z σ H Q I h => ?_⟩
  obtain ⟨h1, D, rfl, C, ht⟩ := h
  obtain ⟨y, g, pr, bd, sc, dV, kV, doc, pm, cdv, ct, oc, an, od, osl, lk, hcd, S, hb, hm, hk, hbody⟩ := F.ex
  exact (pe_warm (t := t D a d) lk hcd S hr hp hb hg hm hk (fun z H => hbody D a d oe C hz hf _ _ z H) he hdb hst hpl).run pins z σ H Q I ⟨_, h1, rfl, ht⟩
theorem pe_errF (hz : Zc cls d oe) (hf : ∃ vs, oe.data = .fields vs) (he : PE (X.suite a ((a, oe) :: pn)) (.Name n p2) (tVar i)) {f : Str} (hb : attributeBase (.Name n p2) f X.env (eval (.Name n p2) X.env) = eval (.Name n p2) X.env := by rfl) :
    PE (X.suite a ((a, oe) :: pn)) (.Attribute (.Name n p2) f pos) (tErrF X.K i a cls d f) := by
  refine ⟨fun pins z σ H Q I h => ?_⟩
  obtain ⟨h1, C, dd, fs, v, rfl, hx, hn, hd, hH, hl, q⟩ := h
  exact (pe_xf hx hn hz hf he hb).run pins z σ H Q I ⟨_, h1, rfl, rfl, dd, fs, v, hd, hH, hl, q⟩
theorem pss_len {b : List Stmt} {t : TS} (h : PSs X b t) : PSs X b (fun D σ H => σ.length = X.N.length → t D σ H) := ⟨fun pins s σ H D I hh => h.run pins s σ H D I (hh I.len)⟩
end
def TTold (K : PySem.W.Frag) : (XK → Hp → VK → Prop) → Hp → VK → Prop := fun tl H Q => tl (fun cls d H' => rErr K cls d H' Q) H Q
theorem told_does {X : Cx} {Ng : List Str} {x y e n q : Str} {sg : Scope} {g : Addr} {cdg : Value} {b₀ : Stmt} {suite : List Stmt} {ts : Addr → Value → Option Addr → TS} {p1 p2 p3 p4 p7 p8 : Pos} (hge : sg.names.lookup e = some .globalImplicit) (hme : X.mg e = some (.ref (He.ga X.K "SortError"))) (hde : (e == ("__debug__" : Str)) = false)
    (nd : Ng.Nodup) (hi : Ng[1]? = some n) (hln : sg.names.lookup n = some .local) (h0 : ∀ f : Addr, (L2.start Ng [V.ref f])[0]? = some (some (V.ref f)))
    (hsu : ∀ (s : Shared) (H : Hp) (a : Addr) (oe : Obj) (cls : Value) (d : Option Addr) (pn : List (Addr × Obj)), Zc cls d oe → (∃ vs, oe.data = .fields vs) → PSs ((cxOf C8.CX0 X.prog X.w X.K X.mg X.base Ng x sg g cdg X.A X.stack s H C8.E0).nox.suite a ((a, oe) :: pn)) (b₀ :: suite) (ts a cls d))
    (hp : ∀ (a : Addr) (cls : Value) (d : Option Addr) (H : Hp) (Q : VK) (D : Ends) (σ : L2.St), rErr X.K cls d H Q → D.rt = Q → σ.length = Ng.length → ts a cls d D (σ.set 1 (some (.ref a))) H) :
    GivesTo X Ng x sg g cdg [.Try [.Return (some (.Call (.Name y p1) [] [] p2)) p3] [.ExceptHandler (some (.Name e p4)) (some n) (b₀ :: suite) p7] [] [] p8] y q (TTold X.K) := by
  intro f c' s H Q tl act hc h
  have hgl : Gl (cxOf C8.CX0 X.prog X.w X.K X.mg X.base Ng x sg g cdg X.A X.stack s H C8.E0).nox e := hge
  refine ⟨_, pss_one (ps_try_as (X := (cxOf C8.CX0 X.prog X.w X.K X.mg X.base Ng x sg g cdg X.A X.stack s H C8.E0).nox) (c := .ref (He.ga X.K "SortError")) (i := 1)
      (ts := fun a cls d D σ H => σ.length = Ng.length → ts a cls d D σ H)
      (tb := fun W D σ H => ∃ Ech : XK, (∀ cls d σ' H', Ech cls d H' → W cls d σ' H') ∧ σ[0]? = some (some (.ref f)) ∧ H c' = some (CodeO c' q) ∧ tl Ech H D.rt)
      rfl rfl nd hi hln ⟨hgl, hde, .inl hme⟩ LamX.takes0 (fun W pn xe tk _ => ?_) (fun a oe cls d pn hz hf => pss_len (hsu s H a oe cls d pn hz hf))), ?_⟩
  · refine ⟨fun pins z σ H' D I h' => ?_⟩
    obtain ⟨Ech, hW, h1, h2, h3⟩ := h'
    exact (pss_one (ps_ret (pos := p3) (act W pn xe Ech p1 p2 tk hW))).run pins z σ H' D I ⟨h1, h2, h3⟩
  · refine ⟨fun cls d H' => rErr X.K cls d H' Q, fun cls d σ' H' hx => ?_, h0 f, hc, h⟩
    obtain ⟨z, v, rfl, E, r⟩ := id hx
    exact ⟨true, E.s, fun _ a _ hl => hp a _ d H' Q _ σ' hx rfl (by simpa using hl), fun z => nomatch z⟩
abbrev Lams : Type := List (He.Defn × Str)
def tabs (T : Lams) (K : PySem.W.Frag) : List (Addr × Str) := T.map fun p => ((He.cT K p.1).2, p.2)
structure TabF (K : PySem.W.Frag) (mg : Str → Option Value) (base : Heap) (T : Lams) : Prop where
  tb : ∀ p ∈ T, TabB base mg (He.cT K p.1).1 (He.cT K p.1).2
  nd : ((tabs T K).map (·.1)).Nodup
theorem uniq_of : ∀ {T : List (Addr × Str)} {c : Addr} {q : Str}, (T.map (·.1)).Nodup → (c, q) ∈ T → ∀ p ∈ T, p.1 = c → p.2 = q
  | [], _, _, _, h => nomatch h
  | z :: r, c, q, nd, h => fun p hp e => by
    rw [List.map_cons, List.nodup_cons] at nd
    rcases List.mem_cons.mp h with e1 | h1
    · rcases List.mem_cons.mp hp with e2 | h2
      · rw [e2, ← e1]
      · exact (nd.1 (List.mem_map.mpr ⟨p, h2, by rw [e, ← e1]⟩)).elim
    · rcases List.mem_cons.mp hp with e2 | h2
      · exact (nd.1 (List.mem_map.mpr ⟨_, h1, by rw [← e2, e]⟩)).elim
      · exact uniq_of nd.2 h1 p h2 e
structure ToldFn (P : Program) (w : World) (K : PySem.W.Frag) (mg : Str → Option Value) (base : Heap) (x : Str) : Prop where
  ex : ∃ (Ng : List Str) (y : Str) (g : Addr) (pr : Arguments) (bd : List Stmt) (sc : Scope) (dV kV doc pm cdv ct oc : Value) (an od : Option Addr) (osl : Array (Option Value)),
    K.lookup g = some ⟨oc, od, .func (PySem.W.fnOf x x pr bd sc dV kV doc pm an cdv ct), osl⟩ ∧ PySem.W.codeIn K cdv x = true ∧ L2.Binds K (PySem.W.fnOf x x pr bd sc dV kV doc pm an cdv ct) [y] [] ∧ FnScope Ng [y] sc ∧ Ng[0]? = some y ∧ Vis sc y ∧
    mg x = some (.ref g) ∧ PySem.W.keepIn K (.ref g) = true ∧ (y == ("__debug__" : Str)) = false ∧ (y == ("__classdict__" : Str)) = false ∧
    ∀ (X : Cx), X.prog = P → X.w = w → X.K = K → X.mg = mg → X.base = base → Room 2 X.A → ∀ q, GivesTo X Ng x sc g cdv bd y q (TTold K)
section
variable {X : Cx}
theorem pe_told {T : Lams} {p0 : He.Defn} {x : Str} {k : Nat} {params : Arguments} {body : Expr} {scope : Scope} {t : XK → TE} {p lpos pos : Pos} (F : ToldFn X.prog X.w X.K X.mg X.base x) (TF : TabF X.K X.mg X.base T) (hmT : (p0, X.env.qual ++ "<lambda>") ∈ T) (hcode : X.env.code = .ref (He.codeOf X.K p0)) (hg : Gl X x) (hr : Room (k + 2) X.A)
    (L : lamSB X.env.scope scope = true) (hdef : defaultsOf params X.env = ([], []))
    (hbind : ∀ (q : Str) (cl : List (Str × Addr)) (pm cv ctv : Value), bindArgs (PySem.W.kla_fn "<lambda>" q params body scope cl pm cv ctv) ⟨[], []⟩ = pure [])
    (hbody : ∀ (A : Around) (outer : List Env) (s : Shared) (H : Hp) (E : XK) (f c' : Addr), Room k (A.deeper (lamEnv X scope s.heap.objs.size f c')) → PE (lamCx X A outer s H E scope f c') body (t E))
    (hdb : (x == ("__debug__" : Str)) = false := by decide) :
    PE X (.Call (.Name x p) [.Lambda params body scope lpos] [] pos) (tLam (tabs T X.K) (TTold X.K) t) := by
  obtain ⟨Ng, y, g, pr, bd, sc, dV, kV, doc, pm, cdv, ct, oc, an, od, osl, lk, hcd, hb, S, hN, hv, hm, hk, h1, h2, hG⟩ := F.ex
  have mT : ((He.cT X.K p0).2, X.env.qual ++ "<lambda>") ∈ tabs T X.K := List.mem_map.mpr ⟨_, hmT, rfl⟩
  exact pe_lamcall hg hm hk lk hcd hb S hN hv (hG X rfl rfl rfl rfl rfl (hr.mono (by omega)) _) (TF.tb _ hmT) hcode mT (uniq_of TF.nd mT) hr (lamS_by L) hdef hbind hbody hdb h1 h2
end
section
variable {P : Program} {w : World} {K : PySem.W.Frag} {mg : Str → Option Value} {base : Heap} {k : Nat} {x qual : Str} {at_ : Str × Option Str} {params : Arguments} {body : List Stmt} {scope : Scope} {N ps : List Str} {sp : Sp} {fd : FuncData}
theorem fn_ofL (F : FunD K x qual params body scope [] [] (He.fAd K at_) fd) (S : FnScope N ps scope) (len : ∀ vs H Q E, sp vs H Q E → vs.length = ps.length)
    (t : XK → TS) (h : ∀ (A : Around) (outer : List Env) (s : Shared) (H : Hp) (E : XK), Room k (A.deeper (envOfC qual scope s.heap.objs.size (He.fAd K at_) (.ref (He.codeOf K at_)))) →
      PSs (cxOf (L2.CX P w) P w K mg base N qual scope (He.fAd K at_) (.ref (He.codeOf K at_)) A outer s H E) body (t E))
    (pure_ : ∀ vs H Q E, sp vs H Q E → t E { nx := fun _ H' => Q .non H', rt := Q } (start N vs) H) : FnOk P w K mg base (L2.CX P w) (k + 1) (He.fAd K at_) fd ps sp := by
  obtain ⟨oc, od, dV, kV, doc, pm, an, cdv, ct, osl, rfl, lk, hcd, _, _⟩ := F.ex
  obtain ⟨c, rfl⟩ := He.codeIn_ref hcd
  have e : He.codeOf K at_ = c := He.codeOf_eq lk rfl
  rw [e] at h
  exact fn_of lk hcd S len fun A outer s H vs Q E hr hsp => ⟨t E, h A outer s H E hr, pure_ vs H Q E hsp⟩
theorem can_ofL (F : FunD K x qual params body scope [] [] (He.fAd K at_) fd) (b : Binds K fd ps []) (S : FnScope N ps scope) (len : ∀ vs H Q E, sp vs H Q E → vs.length = ps.length)
    (t : XK → TS) (h : ∀ (A : Around) (outer : List Env) (s : Shared) (H : Hp) (E : XK), Room k (A.deeper (envOfC qual scope s.heap.objs.size (He.fAd K at_) (.ref (He.codeOf K at_)))) →
      PSs (cxOf (L2.CX P w) P w K mg base N qual scope (He.fAd K at_) (.ref (He.codeOf K at_)) A outer s H E) body (t E))
    (pure_ : ∀ vs H Q E, sp vs H Q E → t E { nx := fun _ H' => Q .non H', rt := Q } (start N vs) H) : Can P w K mg base (k + 1) at_ ps sp :=
  ⟨fd, fn_ofL F S len t h pure_, b, F.kp⟩
theorem warm_of {t : Addr → Addr → Option Addr → TS} {y : Str} (F : FunD K x x params body scope [] [] (He.fAd K (x, none)) fd) (b : Binds K fd [y] []) (S : FnScope N [y] scope) (hm : mg x = some (.ref (He.fAd K (x, none))))
    (h : ∀ (D a : Addr) (d : Option Addr) (oe : Obj), ExcC K D → Zc (.ref D) d oe → (∃ vs, oe.data = .fields vs) → ∀ (cdv : Value) (A : Around) (outer : List Env) (z : Shared) (H : Hp), PSs (cxP P w K mg base N x scope (He.fAd K (x, none)) cdv A outer z H a oe) body (t D a d)) : WarmFn P w K mg base x N t := by
  obtain ⟨oc, od, dV, kV, doc, pm, an, cdv, ct, osl, rfl, lk, hcd, _, _⟩ := F.ex
  exact ⟨_, _, _, _, _, dV, kV, doc, pm, cdv, ct, oc, an, od, osl, lk, hcd, S, b, hm, F.kp, fun D a d oe C hz hf A outer z H => h D a d oe C hz hf cdv A outer z H⟩
theorem told_of {y : Str} (F : FunD K x x params body scope [] [] (He.fAd K (x, none)) fd) (b : Binds K fd [y] []) (S : FnScope N [y] scope) (hN : N[0]? = some y) (hv : Vis scope y) (hm : mg x = some (.ref (He.fAd K (x, none)))) (h1 : (y == ("__debug__" : Str)) = false) (h2 : (y == ("__classdict__" : Str)) = false)
    (h : ∀ (cdv : Value) (X : Cx), X.prog = P → X.w = w → X.K = K → X.mg = mg → X.base = base → Room 2 X.A → ∀ q, GivesTo X N x scope (He.fAd K (x, none)) cdv body y q (TTold K)) : ToldFn P w K mg base x := by
  obtain ⟨oc, od, dV, kV, doc, pm, an, cdv, ct, osl, rfl, lk, hcd, _, _⟩ := F.ex
  exact ⟨_, _, _, _, _, _, dV, kV, doc, pm, cdv, ct, oc, an, od, osl, lk, hcd, b, S, hN, hv, hm, F.kp, h1, h2, fun X => h cdv X⟩
end
def xCount (K : PySem.W.Frag) : V → List V → Hp → VK → Prop := fun x xs H Q => ∃ a ys y, x = V.ref a ∧ xs = [y] ∧ SqL K H a ys ∧ flatV y = true ∧ ys.all flatV = true ∧ Q (.int ((ys.countP fun z => eqV z y : Nat) : Int)) H
theorem countU : ∀ {ys : List V} {its : List Value} {y : V}, Vals ys its → ys.all flatV = true → its.countP (eqU y) = ys.countP fun z => eqV z y
  | _, _, _, .nil, _ => rfl
  | z :: ys, u :: its, y, .cons r rr, f => by
    rw [List.all_cons, Bool.and_eq_true] at f
    rw [List.countP_cons, List.countP_cons, countU rr f.2, eqU_of r f.1]
theorem mt_countF {X : Cx} : MtR X "list.count" (xCount X.K) := by
  intro pins z σ H x xs v us Q I rx rxs h
  obtain ⟨a, ys, y, rfl, rfl, hs, fy, fys, q⟩ := h
  cases rx
  obtain ⟨u, rfl, ru⟩ := rxs.one
  obtain ⟨its, rv, ⟨⟨cls, dd, data, sl⟩, n, ho, hc, hdn, hd⟩, hlen⟩ := I.list hs
  cases (show cls = _ from hc)
  cases (show data = _ from hd)
  refine call_meets PySem.F.slot_list_count ⟨_, ho, rfl⟩ PySem.F.entry_list_count (PySem.F.args_list_count_2 _ _) (SeqAt.list_countAt a its.toArray n dd sl u (eqU y)) ⟨ho, fun u' hu' => mem_eqAt ru fy rv fys u' (by simpa using hu'), ?_⟩
  have ec : its.toArray.toList.countP (eqU y) = ys.countP fun z => eqV z y := countU rv fys
  rw [ec]
  exact ⟨.int ((ys.countP fun z => eqV z y : Nat) : Int), H, I.tok _, ⟨_, rfl⟩, q⟩
theorem room_suite {A : Around} {env : Env} {h : Option Value} (r : Room 2 A) : L2H.RoomH 1 ((A.deeper env).mark h) := ⟨(r.deeper env).dp, (r.deeper env).un⟩
end Rs

namespace Rs
open PySem PySem.Spec PyProof.Rows L2
section
variable {M : Model} {A : Around} {E : Value → Shared → Prop} {s : Shared} {env : Env}
end
section
variable {X : Cx} {pins : List (Addr × Obj)} {σ : L2.St} {H : Hp} {s : Shared} {E : XK}
end
end Rs

namespace Rs
open PySem PySem.Spec PyProof.Rows L2
section
variable {X : Cx}
end
end Rs

namespace Rs
open PySem PySem.Spec PyProof.Rows L2
section
variable {prog : Program} {w : World} {A : Around} {E : Value → Shared → Prop}
end
section
variable {X : Cx}
end
end Rs

namespace Rs
open PySem PySem.Spec PyProof.Rows L2
section
variable {X : Cx}
end
end Rs

namespace Rs
open PySem PySem.Spec PyProof.Rows L2
section
variable {X : Cx}
end
end Rs

namespace Rs
open PySem PySem.Spec PyProof.Rows L2
end Rs

namespace Rs
open PySem PySem.Spec PyProof.Rows L2
def rDUpdP (K : PySem.W.Frag) : V → List V → Hp → VK → Prop := fun x vs H Q => ∃ (a b : Addr) (ps : List Addr) (kvs more : List (Key × V)), x = .ref a ∧ vs = [.ref b] ∧ H a = some (.dK kvs) ∧ SqL K H b (ps.map V.ref) ∧ Paired (fun p kv => SqT K H p [kV kv.1, kv.2]) ps more ∧ kvs.length + more.length ≤ sizeLine ∧ Q .non (upd H a (.dK (mergeK kvs more)))
theorem pairs_at {X : Cx} {pins : List (Addr × Obj)} {σ : L2.St} {H : Hp} {s : Shared} (I : Inv X pins σ H s) : ∀ {ps : List Addr} {kvs : List (Key × V)}, Paired (fun p kv => SqT X.K H p [kV kv.1, kv.2]) ps kvs →
    ∃ pv : List (Key × Value × Value), KV kvs (pv.map fun z => (z.1, z.2.2)) ∧ pv.length = ps.length ∧ ∀ (j : Nat) (z : Key × Value × Value), pv[j]? = some z → ∃ b, ps[j]? = some b ∧ IsTup s.heap b #[z.2.1, z.2.2] ∧ keyIs z.1 z.2.1 = true
  | _, _, .nil => ⟨[], .nil, rfl, fun j z e => by simp at e⟩
  | _, _, .cons (a := p) (b := kv) h t => by
    obtain ⟨pv, r, hl, hp⟩ := pairs_at I t
    obtain ⟨its, rv, ht, _⟩ := I.tuple h
    obtain ⟨u, y, rfl, ru, ry⟩ := vals2 rv
    refine ⟨(kv.1, u, y) :: pv, .cons ⟨rfl, ry⟩ r, by rw [List.length_cons, List.length_cons, hl], fun j z e => ?_⟩
    cases j with
    | zero =>
      cases (show (kv.1, u, y) = z from Option.some.inj e)
      exact ⟨p, rfl, ht, kV_is (P := X.prog) (w := X.w) ru⟩
    | succ j => exact hp j z e
theorem mt_dupdateP {X : Cx} (hcalm : X.calm = true) : MtM X "dict.update" (rDUpdP X.K) := by
  intro pins s σ H x vs v us Q I rx rv h
  obtain ⟨a, b, ps, kvs, more, rfl, rfl, ha, hb, hp, hz, q⟩ := h
  cases rx
  obtain ⟨u, rfl, ru⟩ := rv.one
  cases ru
  obtain ⟨z, hd, ws, rel, dd⟩ := dk_of I.hok ha
  obtain ⟨its, rl, pl, hz2⟩ := I.list hb
  have ei := refs_at rl
  subst ei
  obtain ⟨pv, relp, hl, hpv⟩ := pairs_at I hp
  have ad : ∀ b o, s.heap.get? b = some o → (∀ e n, o.data ≠ .dict e n) → b ≠ a := fun b o e n z => by
    obtain ⟨od, es, ep, ho, _, hdat, _⟩ := dd
    rw [z, ho] at e
    cases e
    exact n _ _ hdat
  have P := PairArg.list (prog := X.prog) (w := X.w) b (ps.map Value.ref).toArray (fun j => ps.getD j 0) (pv.map fun z => (z.2.1, z.2.2))
  have items : PairItems s.heap (ps.map Value.ref).toArray (fun j => ps.getD j 0) (pv.map fun z => (z.2.1, z.2.2)) := ⟨by simp [hl], fun j k v e => by
    rw [List.getElem?_map] at e
    obtain ⟨z, hz3, ez⟩ := Option.map_eq_some_iff.mp e
    cases ez
    obtain ⟨c, hc, ht, _⟩ := hpv j z hz3
    refine ⟨by simp [hc], .inl ?_⟩
    show s.heap.IsTuple (ps.getD j 0) _
    rw [List.getD_eq_getElem?_getD, hc]
    exact ht⟩
  refine call_update_pairs (knd := mixKind X.prog X.w) (acc := ws) (kvs := pv.map fun z => (z.1, z.2.2)) P (I.ok.hd hcalm) ⟨pl, items⟩ ?_ ⟨by simp, fun i key v e => ?_⟩ dd ?_ fun h' tk dd' hk => ?_
  · intro m
    rcases List.mem_cons.mp m with e | m
    · obtain ⟨o, n, ho, hc, _, hdat⟩ := pl
      exact ad b o ho (fun e n z => by rw [hdat] at z; cases z) e.symm
    · obtain ⟨j, hj, e⟩ := List.mem_map.mp m
      rw [List.mem_range, List.length_map] at hj
      obtain ⟨c, hc, ⟨o, ho, _, n, hdat⟩, _⟩ := hpv j pv[j] (List.getElem?_eq_getElem hj)
      have ec : ps.getD j 0 = c := by rw [List.getD_eq_getElem?_getD, hc]; rfl
      exact ad c o ho (fun e n z => by rw [hdat] at z; cases z) (ec.symm.trans e)
  · have e : (pv.map fun z => (z.2.1, z.2.2))[i]? = some (key, v) := e
    rw [List.getElem?_map] at e
    obtain ⟨z, hz3, ez⟩ := Option.map_eq_some_iff.mp e
    cases ez
    obtain ⟨c, hc, _, hk⟩ := hpv i z hz3
    exact ⟨z.1, by rw [List.getElem?_map, hz3]; rfl, hk⟩
  · have l1 := rel.length
    have l2 := relp.length
    rw [List.length_map] at l2 ⊢
    omega
  · have he : ∃ q, h'.get? a = some q := let ⟨q, _, _, hq, _⟩ := dd'; ⟨q, hq⟩
    have hl2 : (mergeK kvs more).length ≤ sizeLine := Nat.le_trans (length_mergeK more kvs) hz
    exact ⟨.non, _, I.write (x := a) (e := a) (by rw [ha]; exact True.intro) (.inl rfl) (fun b q hb z => hk b q hb (by simp) z) he (dk_new hl2 hd (relp.merge rel) dd'), rfl, q⟩
end Rs

namespace Rs
open PySem PySem.Spec PyProof.Rows L2
section
variable {X : Cx}
end
end Rs

namespace Rs
open PySem PySem.Spec PyProof.Rows L2
abbrev Hds := List (Option Pr)
def hd (hs : Hds) (s : Nat) : Option Pr := (hs.getD s none)
def hdV (hs : Hds) (s : Nat) : Pr := (hd hs s).getD c0.2
def pick (o : Ord) (hs : Hds) : Option Nat → Option Nat → Option Nat
  | none, b => b
  | some i, none => some i
  | some i, some j => if before o (hdV hs i) (hdV hs j) then some i else some j
def leafOf (hs : Hds) (s : Nat) : Option Nat := if (hd hs s).isSome then some s else none
def bst (bs : List (Option Nat)) (k : Nat) : Option Nat := bs.getD k none
structure TreeOk (o : Ord) (hs : Hds) (bs : List (Option Nat)) (many : Nat) (bad : Nat → Prop) : Prop where
  len : bs.length = 2 * many
  leaf : ∀ s, s < many → bst bs (many + s) = leafOf hs s
  knot : ∀ k, 1 ≤ k → k < many → ¬ bad k → bst bs k = pick o hs (bst bs (2 * k)) (bst bs (2 * k + 1))
theorem TreeOk.imp {o : Ord} {hs : Hds} {bs : List (Option Nat)} {many : Nat} {p q : Nat → Prop} (T : TreeOk o hs bs many p) (h : ∀ k, p k → q k) : TreeOk o hs bs many q := ⟨T.len, T.leaf, fun k a b c => T.knot k a b fun z => c (h k z)⟩
end Rs

namespace Rs
open PySem PySem.Spec PyProof.Rows L2
structure TxtTree (K : PySem.W.Frag) : Prop where
  cl : Cls K (He.ga K "Tree")
  n_order : NoAttr K (He.ga K "Tree") "order"
  n_heads : NoAttr K (He.ga K "Tree") "heads"
  n_many : NoAttr K (He.ga K "Tree") "many"
  n_looks : NoAttr K (He.ga K "Tree") "looks"
  n_best : NoAttr K (He.ga K "Tree") "best"
def f_Tree (x0 x1 x2 x3 x4 : V) : List (Str × V) := [(("order" : Str), x0), (("heads" : Str), x1), (("many" : Str), x2), (("looks" : Str), x3), (("best" : Str), x4)]
def TreeOb (K : PySem.W.Frag) (H : Hp) (p : Addr) (x0 x1 x2 x3 x4 : V) : Prop := ∃ dx, H p = some (.ins (He.ga K "Tree") dx (f_Tree x0 x1 x2 x3 x4))
section
variable {K : PySem.W.Frag} {x0 x1 x2 x3 x4 y : V} {H : Hp} {Q : VK} {p : Addr} {D : Ends} {σ : L2.St}
end
section
variable {K : PySem.W.Frag} {x0 x1 x2 x3 x4 y : V} {H : Hp} {Q : VK} {p dx : Addr} {D : Ends} {σ : L2.St}
end
theorem But.tupOf {S : List Addr} {H H' : Hp} (k : But S H H') (h : ∀ b ∈ S, ∀ xs, H b ≠ some (.tup xs)) : TupLe H H' := fun c xs e => k c _ e (fun hm => h c hm xs e)
theorem nt_lst {H : Hp} {b : Addr} {vs : List V} (h : H b = some (.lst vs)) : ∀ xs, H b ≠ some (.tup xs) := fun xs e => by rw [h] at e; cases e
theorem nt_ins {H : Hp} {b C dx : Addr} {fs : List (Str × V)} (h : H b = some (.ins C dx fs)) : ∀ xs, H b ≠ some (.tup xs) := fun xs e => by rw [h] at e; cases e
theorem all3 {P : Addr → Prop} {a b c : Addr} (h1 : P a) (h2 : P b) (h3 : P c) : ∀ x ∈ [a, b, c], P x := fun x hx => by
  simp only [List.mem_cons, List.not_mem_nil, or_false] at hx
  rcases hx with rfl | rfl | rfl <;> assumption
def NatAt : Rel (Option Nat) := fun _ v q => match q with
  | none => v = .non
  | some n => v = .int ((n : Nat) : Int)
theorem NatAt.st : Stable NatAt := fun _ _ _ _ _ h => h
structure TreeS (K : PySem.W.Frag) (H : Hp) (p lo lh lb : Addr) (o : Ord) (hs : Hds) (bs : List (Option Nat)) (many : Nat) (looks : Int) : Prop where
  ob : TreeOb K H p (.ref lo) (.ref lh) (.int (many : Int)) (.int looks) (.ref lb)
  ord : Lst TurnAt H lo o
  heads : Lst OptAt H lh hs
  best : Lst NatAt H lb bs
  nhb : lh ≠ lb
  noh : lo ≠ lh
  nob : lo ≠ lb
theorem TreeOb.keep {K : PySem.W.Frag} {H H' : Hp} {p : Addr} {x0 x1 x2 x3 x4 : V} (h : TreeOb K H p x0 x1 x2 x3 x4) (k : ∀ o, H p = some o → H' p = some o) : TreeOb K H' p x0 x1 x2 x3 x4 := let ⟨dx, e⟩ := h; ⟨dx, k _ e⟩
section
variable {K : PySem.W.Frag} {H H' : Hp} {p lo lh lb : Addr} {o : Ord} {hs hs' : Hds} {bs bs' : List (Option Nat)} {many : Nat} {looks looks' : Int} {vs : List V}
theorem TreeS.tup (T : TreeS K H p lo lh lb o hs bs many looks) (k : But [p, lh, lb] H H') : TupLe H H' := by
  obtain ⟨dx, e⟩ := T.ob
  obtain ⟨_, e2, _⟩ := T.heads
  obtain ⟨_, e3, _⟩ := T.best
  exact k.tupOf (all3 (nt_ins e) (nt_lst e2) (nt_lst e3))
theorem TreeS.keep (T : TreeS K H p lo lh lb o hs bs many looks) (t : TupLe H H') (k : ∀ b, b = p ∨ b = lo ∨ b = lh ∨ b = lb → ∀ u, H b = some u → H' b = some u) : TreeS K H' p lo lh lb o hs bs many looks :=
  ⟨T.ob.keep (k _ (.inl rfl)), T.ord.keep TurnAt.st t (k _ (.inr (.inl rfl))), T.heads.keep OptAt.st t (k _ (.inr (.inr (.inl rfl)))), T.best.keep NatAt.st t (k _ (.inr (.inr (.inr rfl)))), T.nhb, T.noh, T.nob⟩
theorem TreeS.same (T : TreeS K H p lo lh lb o hs bs many looks) (s : Same H H') : TreeS K H' p lo lh lb o hs bs many looks := T.keep (TupLe.same s) fun b _ u => s b u
end
def lk : Option Nat → Option Nat → Int
  | some _, some _ => 1
  | _, _ => 0
def HdOk (ks : List Str) (hs : Hds) (a : Option Nat) : Prop := ∀ i, a = some i → ∃ q, hs[i]? = some (some q) ∧ isRow ks q.2 = true
theorem HdOk.of {ks : List Str} {hs : Hds} {a : Option Nat} (hok : ∀ s p, hd hs s = some p → isRow ks p.2 = true) (h : ∀ s, a = some s → (hd hs s).isSome = true) : HdOk ks hs a := fun i hi => by
  have := h i hi
  cases hq : hd hs i with
  | none => rw [hq] at this; cases this
  | some q =>
    refine ⟨q, ?_, hok i q hq⟩
    unfold hd at hq
    rw [List.getD_eq_getElem?_getD] at hq
    cases e : hs[i]? with
    | none => rw [e] at hq; cases hq
    | some z => rw [e] at hq; rw [← hq]; rfl
end Rs

namespace Rs
open PySem PySem.Spec PyProof.Rows L2
structure Mg (ks : List Str) (o : Ord) (found : List Pr) (ts : List (List Pr)) : Prop where
  fine : Fine ks (found ++ ts.flatten)
  up : Up o found
  ups : ∀ t ∈ ts, Up o t
  cross : ∀ x ∈ found, ∀ y ∈ ts.flatten, before o x y = true
end Rs

namespace Rs
open PySem PySem.Spec PyProof.Rows L2
structure TxtSieve (K : PySem.W.Frag) : Prop where
  cl : Cls K (He.ga K "Sieve")
  n_kinds : NoAttr K (He.ga K "Sieve") "kinds"
  n_room : NoAttr K (He.ga K "Sieve") "room"
  n_many : NoAttr K (He.ga K "Sieve") "many"
def f_Sieve (x0 x1 x2 : V) : List (Str × V) := [(("kinds" : Str), x0), (("room" : Str), x1), (("many" : Str), x2)]
def SieveOb (K : PySem.W.Frag) (H : Hp) (p : Addr) (x0 x1 x2 : V) : Prop := ∃ dx, H p = some (.ins (He.ga K "Sieve") dx (f_Sieve x0 x1 x2))
section
variable {K : PySem.W.Frag} {x0 x1 x2 y : V} {H : Hp} {Q : VK} {p : Addr} {D : Ends} {σ : L2.St}
end
section
variable {K : PySem.W.Frag} {x0 x1 x2 y : V} {H : Hp} {Q : VK} {p dx : Addr} {D : Ends} {σ : L2.St}
end
structure SieveS (K : PySem.W.Frag) (H : Hp) (p : Addr) (kv : V) (pr lo lc : Addr) (ks : List Str) (o : Ord) (cs : List Cell) (many : Int) : Prop where
  ob : SieveOb K H p kv (.ref pr) (.int many)
  kinds : KindsAt H kv ks
  room : RoomS K H pr lo lc o cs
  ne : p ≠ pr
theorem SieveOb.keep {K : PySem.W.Frag} {H H' : Hp} {p : Addr} {x0 x1 x2 : V} (h : SieveOb K H p x0 x1 x2) (k : ∀ o, H p = some o → H' p = some o) : SieveOb K H' p x0 x1 x2 := let ⟨dx, e⟩ := h; ⟨dx, k _ e⟩
section
variable {K : PySem.W.Frag} {H H' : Hp} {p pr lo lc : Addr} {kv : V} {ks : List Str} {o : Ord} {cs cs' : List Cell} {many many' : Int}
theorem SieveS.plc (S : SieveS K H p kv pr lo lc ks o cs many) : p ≠ lc ∧ p ≠ lo := by
  obtain ⟨dx, e⟩ := S.ob
  obtain ⟨vs, e2, _⟩ := S.room.cells
  obtain ⟨os, e3, _⟩ := S.room.ord
  exact ⟨ne_of e e2 (by intro z; cases z), ne_of e e3 (by intro z; cases z)⟩
theorem SieveS.tup (S : SieveS K H p kv pr lo lc ks o cs many) (k : But [p, lc] H H') : TupLe H H' := fun c xs e => by
  obtain ⟨dx, e1⟩ := S.ob
  obtain ⟨vs, e2, _⟩ := S.room.cells
  exact k c _ e (nn (ne_of e e1 (by intro z; cases z)) (ne_of e e2 (by intro z; cases z)))
theorem SieveS.same (S : SieveS K H p kv pr lo lc ks o cs many) (s : Same H H') : SieveS K H' p kv pr lo lc ks o cs many := ⟨S.ob.keep fun u => s p u, S.kinds.mono (TupLe.same s), S.room.same s, S.ne⟩
end
end Rs

namespace RsM
open PySem PySem.SeqAt
section
variable {prog : Program} {w : World} {A : Around} {R : Result → Shared → Prop} {I : Addr} {fp wr : List Addr} {n : Nat} {P : Nat → Value → Prop} {St : Nat → Heap → Prop}
def CmpSt (prog : Program) (w : World) (A : Around) (base : Heap) (P : Nat → Value → Prop) (bt : Nat → Nat → Bool) : Prop :=
  ∀ i j x y (z : Shared) (Qz : Value → Shared → Prop) (Ez : Value → Shared → Prop), j < i → (∀ c o, base.get? c = some o → z.heap.get? c = some o) → P i x → P j y → Qz (.bool (bt i j)) z → wpAny (model prog w) A (richCompare .Lt x y) Qz Ez z
theorem best_le (bt : Nat → Nat → Bool) : ∀ q, argBest bt q ≤ q
  | 0 => Nat.le_refl _
  | q + 1 => by
    unfold argBest
    have := best_le bt q
    split <;> omega
theorem more (W : Walks prog w A.in1 I fp wr n P St) {base : Heap} {bt : Nat → Nat → Bool} (cmp : CmpSt prog w A.in1 base P bt) {L : Addr} (nf : L ∉ fp) (old : ∀ c o, base.get? c = some o → c ∉ wr ∧ c ≠ L) :
    ∀ (m q : Nat) (z : Shared) (best : Value) (c : Nat), n - (q + 1) = m → q + 1 ≤ n → St (q + 1) z.heap → P (argBest bt q) best → (∀ c o, base.get? c = some o → z.heap.get? c = some o) →
    z.heap.get? L = some { cls := .type "list", dict := none, data := .seq #[best, best] c, slots := #[] } →
    (∀ v g tk, P (argBest bt (n - 1)) v → (∀ b o, b ∉ wr → b ≠ L → z.heap.get? b = some o → g.get? b = some o) → R (.ok (.ret v)) { z with heap := g, toks := tk }) →
    codeAny (model prog w) A (.builtin "min.loop" ⟨[.ref I, .none, .ref L], []⟩) R z := by
  have nw : L ∉ wr := fun h => nf (W.sub _ h)
  have nm : (toString "min" ++ toString ".loop" : String) = "min.loop" := by decide
  intro m
  induction m with
  | zero =>
    intro q z best c hm hq st pb hb hL fin
    have en : q + 1 = n := by omega
    refine codeAny_builtin F.entry_min_loop ?_; rw [Around.under_plainId F.plain_min_loop _]
    show wpAny _ A.in1 (seqItems? (.ref L) >>= _) _ _ z
    refine wpAny_bind (wpAny_seqItems hL rfl ?_); show wpAny _ A.in1 (tryCatch (pyNext (.ref I)) _ >>= _) _ _ z
    refine wpAny_bind (wpAny_tryCatch (W.done z _ _ (en ▸ st) fun g tk kp => ?_))
    have hL2 := kp L _ nw hL
    show wpAny _ A.in1 (updateSeq L (fun _ => #[]) >>= _) _ _ _
    refine wpAny_bind ?_
    refine wpAny_updateSeq hL2 rfl (wpAny_bind (wpAny_letGo (wpAny_pure ?_)))
    refine fin best _ tk (by rw [← en]; exact pb) fun b o hbw hbL e => (Heap.get?_update_other _ _ (Ne.symm hbL)).trans (kp b o hbw e)
  | succ m ih =>
    intro q z best c hm hq st pb hb hL fin
    have lt : q + 1 < n := by omega
    refine codeAny_builtin F.entry_min_loop ?_; rw [Around.under_plainId F.plain_min_loop _]
    show wpAny _ A.in1 (seqItems? (.ref L) >>= _) _ _ z
    refine wpAny_bind (wpAny_seqItems hL rfl ?_); show wpAny _ A.in1 (tryCatch (pyNext (.ref I)) _ >>= _) _ _ z
    refine wpAny_bind (wpAny_tryCatch (W.item (q + 1) z _ _ lt st fun v g tk pv st2 kp => ?_))
    have hL2 := kp L _ nw hL
    have hb2 : ∀ c o, base.get? c = some o → g.get? c = some o := fun c o e => kp c o (old c o e).1 (hb c o e)
    show wpAny _ A.in1 (tryCatch (holding [v, v] (richCompare .Lt v best >>= _)) _ >>= _) _ _ _
    refine wpAny_bind (wpAny_tryCatch (wpAny_holding (wpAny_bind (cmp (q + 1) (argBest bt q) v best _ _ _ (Nat.lt_succ_of_le (best_le bt q)) hb2 pv pb ?_))))
    refine wpAny_bind (wpAny_holding (wpAny_truthy_bool ?_)); refine wpAny_bind (wpAny_letGo (wpAny_pure ?_))
    cases hbt : bt (q + 1) (argBest bt q) with
    | true =>
      simp only [if_true]
      refine wpAny_bind ?_
      refine wpAny_updateSeq hL2 rfl (wpAny_bind (wpAny_letGo ?_))
      rw [nm]
      refine wpAny_pure ⟨plainId_quiet F.plain_min_loop _, ih (q + 1) _ v _ (by omega) lt (W.frame _ _ _ st2 fun b hbf o e => ?_) (by simp only [argBest, hbt, if_true]; exact pv) (fun c o e => ?_) (Heap.get?_update_self _ hL2 rfl) fun v' g' tk' pv' kp' => ?_⟩
      · exact (Heap.get?_update_other _ _ (fun h : L = b => nf (by rw [h]; exact hbf))).trans e
      · exact (Heap.get?_update_other _ _ (Ne.symm (old c o e).2)).trans (hb2 c o e)
      · exact fin v' g' tk' pv' fun b o hbw hbL e => kp' b o hbw hbL ((Heap.get?_update_other _ _ (Ne.symm hbL)).trans (kp b o hbw e))
    | false =>
      simp only [Bool.false_eq_true, if_false]
      refine wpAny_bind (wpAny_letGo ?_)
      rw [nm]
      refine wpAny_pure ⟨plainId_quiet F.plain_min_loop _, ih (q + 1) _ best c (by omega) lt st2 (by simp only [argBest, hbt, Bool.false_eq_true, if_false]; exact pb) hb2 hL2 fun v' g' tk' pv' kp' => ?_⟩
      exact fin v' g' tk' pv' fun b o hbw hbL e => kp' b o hbw hbL (kp b o hbw e)
theorem first (W : Walks prog w A.in1 I fp wr n P St) {base : Heap} {bt : Nat → Nat → Bool} (cmp : CmpSt prog w A.in1 base P bt) {L : Addr} (nf : L ∉ fp) (old : ∀ c o, base.get? c = some o → c ∉ wr ∧ c ≠ L) (pos : 0 < n) {z : Shared} {c : Nat} (st : St 0 z.heap) (hb : ∀ c o, base.get? c = some o → z.heap.get? c = some o)
    (hL : z.heap.get? L = some { cls := .type "list", dict := none, data := .seq #[] c, slots := #[] })
    (fin : ∀ v g tk, P (argBest bt (n - 1)) v → (∀ b o, b ∉ wr → b ≠ L → z.heap.get? b = some o → g.get? b = some o) → R (.ok (.ret v)) { z with heap := g, toks := tk }) :
    codeAny (model prog w) A (.builtin "min.loop" ⟨[.ref I, .none, .ref L], []⟩) R z := by
  have nw : L ∉ wr := fun h => nf (W.sub _ h)
  have nm : (toString "min" ++ toString ".loop" : String) = "min.loop" := by decide
  refine codeAny_builtin F.entry_min_loop ?_; rw [Around.under_plainId F.plain_min_loop _]
  show wpAny _ A.in1 (seqItems? (.ref L) >>= _) _ _ z
  refine wpAny_bind (wpAny_seqItems hL rfl ?_); show wpAny _ A.in1 (tryCatch (pyNext (.ref I)) _ >>= _) _ _ z
  refine wpAny_bind (wpAny_tryCatch (W.item 0 z _ _ pos st fun v g tk pv st2 kp => ?_))
  have hL2 := kp L _ nw hL
  have hb2 : ∀ c o, base.get? c = some o → g.get? c = some o := fun c o e => kp c o (old c o e).1 (hb c o e)
  show wpAny _ A.in1 (updateSeq L (fun _ => #[v, v]) >>= _) _ _ _
  refine wpAny_bind ?_
  refine wpAny_updateSeq hL2 rfl ?_
  rw [nm]
  refine wpAny_pure ⟨plainId_quiet F.plain_min_loop _, more W cmp nf old _ 0 _ v _ rfl pos (W.frame _ _ _ st2 fun b hbf o e => ?_) pv (fun c o e => ?_) (Heap.get?_update_self _ hL2 rfl) fun v' g' tk' pv' kp' => ?_⟩
  · exact (Heap.get?_update_other _ _ (fun h : L = b => nf (by rw [h]; exact hbf))).trans e
  · exact (Heap.get?_update_other _ _ (Ne.symm (old c o e).2)).trans (hb2 c o e)
  · exact fin v' g' tk' pv' fun b o hbw hbL e => kp' b o hbw hbL ((Heap.get?_update_other _ _ (Ne.symm hbL)).trans (kp b o hbw e))
end
section
variable {prog : Program} {w : World} {A : Around} {E : Value → Shared → Prop} {s : Shared}
end
end RsM
namespace Rs
open PySem PySem.Spec PyProof.Rows L2
def cutD (c : Int × List Int) : PyData := .tuple [.int c.1, .list (c.2.map PyData.int)]
section
variable {X : Cx}
end
end Rs

namespace Rs
open PySem PySem.Spec PyProof.Rows L2
section
variable {α β : Type} {R : Rel α} {S : Rel β} {H1 H' H4 : Hp} {D : Addr} {dn : List β} {y : V} {b : β}
def PvL (S : Rel β) (H1 : Hp) (D : Addr) (dn : List β) (H' : Hp) : Prop := Lst S H' D dn ∧ Same H1 H'
theorem lcStart (hD : H1 D = none) : PvL S H1 D [] (upd H1 D (.lst [])) := ⟨⟨[], upd_same, .nil⟩, Rs.Same.new hD⟩
theorem lcPut (st : Stable S) (hD : H1 D = none) (P : PvL S H1 D dn H') (s : Same H' H4) (hy : S H4 y b) (hl : dn.length < 100000) : ∃ acc, H4 D = some (.lst acc) ∧ acc.length < sizeLine ∧ PvL S H1 D (dn ++ [b]) (upd H4 D (.lst (acc ++ [y]))) := by
  obtain ⟨⟨vs, e, p⟩, s1⟩ := P
  have l := p.length
  have e4 := s _ _ e
  have t : TupLe H4 (upd H4 D (.lst (vs ++ [y]))) := (TupLe.refl H4).list e4
  exact ⟨vs, e4, szlt (by omega), ⟨_, upd_same, P2.app (Paired.tl st ((TupLe.same s).trans t) p) (P2.one (st _ _ _ _ t hy))⟩, Rs.Same.mut (s1.trans s) hD⟩
theorem lcSkip (st : Stable S) (P : PvL S H1 D dn H') (s : Same H' H4) : PvL S H1 D dn H4 := ⟨P.1.same st s, P.2.trans s⟩
theorem take_fm {f : α → Option β} {xs : List α} {j : Nat} {x : α} (h : xs[j]? = some x) : (xs.take (j + 1)).filterMap f = (xs.take j).filterMap f ++ (f x).toList := by
  rw [List.take_succ, h, List.filterMap_append]
  cases hf : f x <;> simp [List.filterMap_cons, hf]
theorem lcm_list {K : PySem.W.Frag} {a : Addr} {vs : List V} {xs : List α} {g : TG} {tt : TT} {te : TE} {ws : List Nat} {σ : L2.St} {Qd : Hp → Prop} (f : α → Option β) (st : Stable S) (ha : H1 a = some (.lst vs)) (p : Paired (R H1) vs xs) (hD : H1 D = none)
    (turn : ∀ (j : Nat) (v : V) (x : α) (H' : Hp), xs[j]? = some x → vs[j]? = some v → R H1 v x → Same H1 H' → (∀ H4, Same H' H4 → f x = none → PvL S H1 D ((xs.take (j + 1)).filterMap f) H4) → (∀ H4 y b, Same H' H4 → f x = some b → S H4 y b → ∃ acc, H4 D = some (.lst acc) ∧ acc.length < sizeLine ∧ PvL S H1 D ((xs.take (j + 1)).filterMap f) (upd H4 D (.lst (acc ++ [y])))) →
      g v (wipe σ ws) H' fun σ2 H2 => wipe σ2 ws = wipe σ ws ∧ tt σ2 H2 fun b H3 => if b = true then te σ2 H3 fun y H4 => ∃ acc, H4 D = some (.lst acc) ∧ acc.length < sizeLine ∧ PvL S H1 D ((xs.take (j + 1)).filterMap f) (upd H4 D (.lst (acc ++ [y]))) else PvL S H1 D ((xs.take (j + 1)).filterMap f) H3)
    (hl : xs.length < 100000) (done : ∀ H', Lst S H' D (xs.filterMap f) → Same H1 H' → Qd H') :
    ∃ W : Nat → Nat → Hp → Prop, (∃ m, W 0 m (upd H1 D (.lst []))) ∧ ∀ i m H, W i m H →
      ((Itl K a).stop i H ∧ Qd H) ∨ ((Itl K a).go i H ∧ ∃ Nx : Hp → Prop, (∀ H', Nx H' → ∃ m', m' < m ∧ W (i + 1) m' H') ∧ ∀ x H', (Itl K a).yld i H x H' → g x (wipe σ ws) H' fun σ2 H2 => wipe σ2 ws = wipe σ ws ∧ tt σ2 H2 fun b H3 =>
        if b = true then te σ2 H3 fun y H4 => ∃ acc, H4 D = some (.lst acc) ∧ acc.length < sizeLine ∧ Nx (upd H4 D (.lst (acc ++ [y]))) else Nx H3) := by
  have lp := p.length
  refine lc_list (K := K) (a := a) (xs := vs) (fun j H' => PvL S H1 D ((xs.take j).filterMap f) H') (lcStart hD) ?_ ?_ ?_
  · rintro j H' _ ⟨_, s⟩
    exact SqL.of (s _ _ ha)
  · rintro j v H' hj P
    obtain ⟨x, hx, r⟩ := P2.get p hj
    have hb : ((xs.take j).filterMap f).length < 100000 := by
      have := List.length_filterMap_le f (xs.take j)
      rw [List.length_take] at this
      omega
    refine turn j v x H' hx hj r P.2 (fun H4 s hf => ?_) (fun H4 y b s hf hy => ?_)
    · rw [take_fm hx, hf, Option.toList_none, List.append_nil]
      exact lcSkip st P s
    · rw [take_fm hx, hf]
      exact lcPut st hD P s hy hb
  · rintro H' ⟨L, s⟩
    rw [List.take_of_length_le (by omega)] at L
    exact done H' L s
end
theorem ints_paired {H : Hp} : ∀ ns : List Int, Paired (IntAt H) (ns.map V.int) ns
  | [] => .nil
  | n :: ns => .cons rfl (ints_paired ns)
theorem paired_ints {H : Hp} : ∀ {vs : List V} {ns : List Int}, Paired (IntAt H) vs ns → vs = ns.map V.int
  | _, _, .nil => rfl
  | _, _, .cons h t => by rw [List.map_cons, ← paired_ints t]; congr 1
theorem Lst.ints {H : Hp} {l : Addr} {ns : List Int} : Lst IntAt H l ns ↔ H l = some (.lst (ns.map V.int)) := ⟨fun ⟨vs, e, p⟩ => by rw [← paired_ints p]; exact e, fun e => ⟨_, e, ints_paired ns⟩⟩
def IIAt : Rel (Int × Int) := fun H v p => IsTp H v [.int p.1, .int p.2]
theorem IIAt.st : Stable IIAt := fun _ _ _ _ t h => IsTp.mono t h
theorem fm_some {α β : Type} {f : α → β} : ∀ {xs : List α}, xs.filterMap (fun x => some (f x)) = xs.map f
  | [] => rfl
  | x :: xs => by rw [List.filterMap_cons, List.map_cons, fm_some]
inductive Pl where
  | leaf (n : Int)
  | node (ps : List Pl)
instance : Inhabited Pl := ⟨.leaf 0⟩
mutual
def Pl.runs : Pl → List Int
  | .leaf n => [n]
  | .node ps => Pl.runsL ps
def Pl.runsL : List Pl → List Int
  | [] => []
  | p :: ps => p.runs ++ Pl.runsL ps
end
mutual
def Pl.fits (w : Nat) : Pl → Bool
  | .leaf _ => true
  | .node ps => (decide (2 ≤ ps.length) && decide (ps.length ≤ w)) && Pl.fitsL w ps
def Pl.fitsL (w : Nat) : List Pl → Bool
  | [] => true
  | p :: ps => p.fits w && Pl.fitsL w ps
end
mutual
def Pl.depth : Pl → Nat
  | .leaf _ => 0
  | .node ps => Pl.depthL ps + 1
def Pl.depthL : List Pl → Nat
  | [] => 0
  | p :: ps => max p.depth (Pl.depthL ps)
end
mutual
inductive PlAt (H : Hp) : V → Pl → Prop
  | leaf (n : Int) : PlAt H (.int n) (.leaf n)
  | node {a : Addr} {vs : List V} {ps : List Pl} : H a = some (.tup vs) → PlAll H vs ps → PlAt H (.ref a) (.node ps)
inductive PlAll (H : Hp) : List V → List Pl → Prop
  | nil : PlAll H [] []
  | cons {v : V} {p : Pl} {vs : List V} {ps : List Pl} : PlAt H v p → PlAll H vs ps → PlAll H (v :: vs) (p :: ps)
end
mutual
theorem PlAt.mono {H H' : Hp} (t : TupLe H H') : ∀ (p : Pl) (v : V), PlAt H v p → PlAt H' v p
  | .leaf n, _, h => by
    cases h
    exact .leaf n
  | .node ps, _, h => by
    cases h with
    | node e a => exact .node (t _ _ e) (PlAll.mono t ps _ a)
theorem PlAll.mono {H H' : Hp} (t : TupLe H H') : ∀ (ps : List Pl) (vs : List V), PlAll H vs ps → PlAll H' vs ps
  | [], _, h => by
    cases h
    exact .nil
  | p :: ps, _, h => by
    cases h with
    | cons a b => exact .cons (PlAt.mono t p _ a) (PlAll.mono t ps _ b)
end
def PlR : Rel Pl := PlAt
theorem PlR.st : Stable PlR := fun _ _ v p t h => PlAt.mono t p v h
theorem PlAll.of {H : Hp} : ∀ {vs : List V} {ps : List Pl}, Paired (PlR H) vs ps → PlAll H vs ps
  | _, _, .nil => .nil
  | _, _, .cons a b => .cons a (PlAll.of b)
theorem PlAll.to {H : Hp} : ∀ {vs : List V} {ps : List Pl}, PlAll H vs ps → Paired (PlR H) vs ps
  | _, _, .nil => .nil
  | _, _, .cons a b => .cons a (PlAll.to b)
theorem PlR.node {H : Hp} {a : Addr} {vs : List V} {ps : List Pl} (e : H a = some (.tup vs)) (p : Paired (PlR H) vs ps) : PlR H (.ref a) (.node ps) := PlAt.node e (PlAll.of p)
theorem Pl.depthL_le {ps : List Pl} {p : Pl} (h : p ∈ ps) : p.depth ≤ Pl.depthL ps := by
  induction ps with
  | nil => simp at h
  | cons q ps ih =>
    rw [Pl.depthL]
    rcases List.mem_cons.mp h with e | e
    · rw [e]; omega
    · have := ih e; omega
mutual
theorem Pl.deep {w : Nat} : ∀ (p : Pl), p.fits w = true → p.depth + 1 ≤ p.runs.length
  | .leaf n, _ => by simp [Pl.depth, Pl.runs]
  | .node ps, h => by
    rw [Pl.fits] at h
    simp only [Bool.and_eq_true, decide_eq_true_eq] at h
    have := Pl.deepL ps h.2
    rw [Pl.depth, Pl.runs]
    omega
theorem Pl.deepL {w : Nat} : ∀ (ps : List Pl), Pl.fitsL w ps = true → Pl.depthL ps + ps.length ≤ (Pl.runsL ps).length
  | [], _ => by simp [Pl.depthL, Pl.runsL]
  | p :: ps, h => by
    rw [Pl.fitsL] at h
    simp only [Bool.and_eq_true] at h
    have a := Pl.deep p h.1
    have b := Pl.deepL ps h.2
    rw [Pl.depthL, Pl.runsL, List.length_append, List.length_cons]
    omega
end
def hm (left w : Nat) : Nat := 2 + (left - 2) % (w - 1)
theorem hm_le {left w : Nat} (h : 2 ≤ left) (hw : 2 ≤ w) : 2 ≤ hm left w ∧ hm left w ≤ left ∧ hm left w ≤ w := by
  unfold hm
  have a := Nat.mod_le (left - 2) (w - 1)
  have b := Nat.mod_lt (left - 2) (by omega : 0 < w - 1)
  omega
end Rs

namespace Rs
open PySem PySem.Spec PyProof.Rows L2
structure GoodLens (ls : List Int) : Prop where
  pos : 1 ≤ ls.length
  le : ls.length ≤ 40
  all : ∀ x ∈ ls, 1 ≤ x ∧ x ≤ 1000000
end Rs

namespace Rs
open PySem PySem.Spec PyProof.Rows L2
def rows0 (ls : List Int) : List (Int × Int) := (List.range ls.length).map fun (i : Nat) => (ls.getD i 0, (i : Int))
def plans0 (n : Nat) : List (Int × Pl) := (List.range n).map fun (i : Nat) => ((i : Int), Pl.leaf (i : Int))
structure CInv (n : Nat) (rows : List (Int × Int)) (plans : List (Int × Pl)) : Prop where
  names : ∀ r ∈ rows, ∃ q ∈ plans, q.1 = r.2
  lt : ∀ q ∈ plans, q.1 < (n : Int) + plans.length
  nd : (rows.map (·.2)).Nodup
def PKv (H : Hp) : List (Key × V) → List (Int × Pl) → Prop := Paired fun kv q => kv.1 = Sum.inl q.1 ∧ PlR H kv.2 q.2
theorem PKv.mono {H H' : Hp} (t : TupLe H H') {kvs : List (Key × V)} {plans : List (Int × Pl)} (h : PKv H kvs plans) : PKv H' kvs plans := P2.mono (fun _ _ ⟨a, b⟩ => ⟨a, PlR.st _ _ _ _ t b⟩) h
theorem mergeK_app : ∀ (more kvs : List (Key × V)), (more.map (·.1)).Nodup → (∀ p ∈ more, valV kvs p.1 = none) → mergeK kvs more = kvs ++ more
  | [], kvs, _, _ => by simp [mergeK]
  | p :: more, kvs, nd, h => by
    rw [List.map_cons, List.nodup_cons] at nd
    have e : mergeK kvs (p :: more) = mergeK (putK kvs p.1 p.2) more := rfl
    rw [e, putK_new _ (h p (List.mem_cons_self ..)), mergeK_app more _ nd.2 fun q hq => ?_]
    · simp
    · rw [valV_snoc _ _ _ _ (h p (List.mem_cons_self ..)), if_neg (fun z => nd.1 (by rw [← z]; exact List.mem_map_of_mem hq))]
      exact h q (List.mem_cons_of_mem _ hq)
end Rs

namespace Rs
open PySem PySem.Spec PyProof.Rows L2
def cutSum (c : Int → Int → Int) : Int → List Int → Int
  | _, [] => 0
  | b, p :: ps => c b p + cutSum c p ps
def Asc : Int → List Int → Int → Prop
  | b, [], t => b = t
  | b, p :: ps, t => b < p ∧ Asc p ps t
theorem asc_le : ∀ {ps : List Int} {b t : Int}, Asc b ps t → b + ps.length ≤ t
  | [], b, t, h => by simp [Asc] at h; simp; omega
  | p :: ps, b, t, h => by
    have := asc_le h.2
    have := h.1
    rw [List.length_cons]
    omega
theorem asc_last : ∀ {qs : List Int} {b t : Int}, Asc b qs t → qs ≠ [] → ∃ ps h, qs = ps ++ [t] ∧ Asc b ps h ∧ h < t
  | [], b, t, _, n => absurd rfl n
  | [p], b, t, a, _ => by
    obtain ⟨a1, a2⟩ := a
    have a2 : p = t := a2
    exact ⟨[], b, by rw [a2]; rfl, rfl, by omega⟩
  | p :: q :: qs, b, t, a, _ => by
    obtain ⟨ps, h, e, a', l⟩ := asc_last (qs := q :: qs) a.2 (by simp)
    exact ⟨p :: ps, h, by rw [e]; rfl, ⟨a.1, a'⟩, l⟩
theorem cut_snoc {c : Int → Int → Int} : ∀ {ps : List Int} {b h t : Int}, Asc b ps h → cutSum c b (ps ++ [t]) = cutSum c b ps + c h t
  | [], b, h, t, a => by
    have a : b = h := a
    subst a
    simp [cutSum]
  | p :: ps, b, h, t, a => by
    show c b p + cutSum c p (ps ++ [t]) = c b p + cutSum c p ps + c h t
    rw [cut_snoc a.2]
    omega
structure BestCut (c : Int → Int → Int) (b e : Int) (w : Nat) (s : Int) (ps : List Int) : Prop where
  asc : Asc b ps e
  two : 2 ≤ ps.length
  le : ps.length ≤ w
  sum : s = cutSum c b ps
  min : ∀ qs, Asc b qs e → 2 ≤ qs.length → qs.length ≤ w → s ≤ cutSum c b qs
def TL (H H' : Hp) : Prop := (∀ a xs, H a = some (.tup xs) → H' a = some (.tup xs)) ∧ ∀ a xs, H a = some (.lst xs) → H' a = some (.lst xs)
theorem TL.refl (H : Hp) : TL H H := ⟨fun _ _ h => h, fun _ _ h => h⟩
theorem TL.trans {H H1 H2 : Hp} (a : TL H H1) (b : TL H1 H2) : TL H H2 := ⟨fun c xs h => b.1 c xs (a.1 c xs h), fun c xs h => b.2 c xs (a.2 c xs h)⟩
theorem TL.same {H H' : Hp} (s : Same H H') : TL H H' := ⟨fun c xs h => s c _ h, fun c xs h => s c _ h⟩
theorem TL.put {H : Hp} {a : Addr} {o u : HO} (h : H a = some u) (h1 : ∀ xs, u ≠ .tup xs) (h2 : ∀ xs, u ≠ .lst xs) : TL H (upd H a o) :=
  ⟨fun c xs e => by rw [upd_ne (fun z => by rw [z, h] at e; exact h1 xs (Option.some.inj e))]; exact e, fun c xs e => by rw [upd_ne (fun z => by rw [z, h] at e; exact h2 xs (Option.some.inj e))]; exact e⟩
theorem TL.dk {H : Hp} {a : Addr} {o : HO} {kvs : List (Key × V)} (h : H a = some (.dK kvs)) : TL H (upd H a o) := TL.put h (fun _ z => by cases z) (fun _ z => by cases z)
abbrev Cut := Int × List Int
def CutAt (H : Hp) (v : V) (q : Cut) : Prop := ∃ a l, v = .ref a ∧ H a = some (.tup [.int q.1, .ref l]) ∧ H l = some (.lst (q.2.map V.int))
theorem CutAt.tl {H H' : Hp} {v : V} {q : Cut} (t : TL H H') (h : CutAt H v q) : CutAt H' v q := let ⟨a, l, e, h1, h2⟩ := h; ⟨a, l, e, t.1 _ _ h1, t.2 _ _ h2⟩
theorem map_int_inj : ∀ {a b : List Int}, a.map V.int = b.map V.int → a = b
  | [], [], _ => rfl
  | [], _ :: _, h => by simp at h
  | _ :: _, [], h => by simp at h
  | x :: a, y :: b, h => by
    rw [List.map_cons, List.map_cons] at h
    injection h with h1 h2
    injection h1 with h1
    rw [h1, map_int_inj h2]
theorem CutAt.uniq {H : Hp} {v : V} {q r : Cut} (h : CutAt H v q) (k : CutAt H v r) : q = r := by
  obtain ⟨a, l, rfl, h1, h2⟩ := h
  obtain ⟨a', l', e, k1, k2⟩ := k
  injection e with e
  subst e
  rw [h1] at k1
  injection k1 with k1
  injection k1 with k1
  injection k1 with k1 k3
  injection k1 with k1
  injection k3 with k3
  injection k3 with k3
  subst k3
  rw [h2] at k2
  injection k2 with k2
  injection k2 with k2
  exact Prod.ext k1 (map_int_inj k2)
theorem CutAt.dp {K : PySem.W.Frag} {H : Hp} {v : V} {q : Cut} (h : CutAt H v q) : Dp K H v (cutD q) := by
  obtain ⟨a, l, rfl, h1, h2⟩ := h
  have hints : ∀ ns : List Int, DpAll K H (ns.map V.int) (ns.map PyData.int) := fun ns => by
    induction ns with
    | nil => exact .nil
    | cons x xs ih => exact .cons (.int x) ih
  exact .tup (SqT.of h1) (.cons (.int _) (.cons (.lst (SqL.of h2) (hints _)) .nil))
theorem putK_keys {kvs : List (Key × V)} {k : Key} {v : V} : ((putK kvs k v).map (·.1)) = if (valV kvs k).isSome then kvs.map (·.1) else kvs.map (·.1) ++ [k] := by
  unfold putK
  rw [valV_any]
  cases (valV kvs k).isSome
  · simp
  · simp only [if_true, List.map_map]
    congr 1
    funext kv
    show (if kv.1 = k then (kv.1, v) else kv).1 = kv.1
    split <;> rfl
theorem valV_of_mem {kvs : List (Key × V)} {k : Key} {v : V} (h : (k, v) ∈ kvs) : ∃ u, valV kvs k = some u := by
  cases e : valV kvs k with
  | some u => exact ⟨u, rfl⟩
  | none =>
    exfalso
    unfold valV at e
    rw [Option.map_eq_none_iff, List.find?_eq_none] at e
    have := e _ h
    simp at this
theorem keys_none {kvs : List (Key × V)} {k : Key} (h : valV kvs k = none) : k ∉ kvs.map (·.1) := fun hm => by
  obtain ⟨kv, hkv, e⟩ := List.mem_map.mp hm
  obtain ⟨u, hu⟩ := valV_of_mem (kvs := kvs) (k := k) (v := kv.2) (by rw [← e]; exact hkv)
  rw [h] at hu
  cases hu
theorem putK_nd {kvs : List (Key × V)} {k : Key} {v : V} (nd : (kvs.map (·.1)).Nodup) : ((putK kvs k v).map (·.1)).Nodup := by
  rw [putK_keys]
  cases e : valV kvs k with
  | some u => exact nd
  | none =>
    simp only [Option.isSome_none, Bool.false_eq_true, if_false]
    refine List.nodup_append.mpr ⟨nd, by simp, fun a ha b hb z => ?_⟩
    have hb : b = k := by simpa using hb
    rw [z, hb] at ha
    exact keys_none e ha
theorem keys_few {kvs : List (Key × V)} {b : Int} {n : Nat} (nd : (kvs.map (·.1)).Nodup) (h : ∀ k ∈ kvs.map (·.1), ∃ t : Int, k = Sum.inl t ∧ b ≤ t ∧ t ≤ b + n) : kvs.length ≤ n + 1 := by
  have sub : (kvs.map (·.1)) ⊆ (List.range (n + 1)).map fun (i : Nat) => (Sum.inl (b + (i : Int)) : Key) := fun k hk => by
    obtain ⟨t, e, h1, h2⟩ := h k hk
    refine List.mem_map.mpr ⟨(t - b).toNat, List.mem_range.mpr (by omega), ?_⟩
    rw [e]
    congr 1
    omega
  have := nd.length_le_of_subset sub
  simpa using this
theorem valV_drop {kvs : List (Key × V)} {k j : Key} : valV (dropK kvs k) j = if j = k then none else valV kvs j := by
  unfold valV dropK
  induction kvs with
  | nil => simp
  | cons kv kvs ih =>
    rw [List.filter_cons]
    by_cases e : kv.1 = k
    · rw [if_neg (by simp [e]), ih]
      by_cases ej : j = k
      · rw [if_pos ej, if_pos ej]
      · rw [if_neg ej, if_neg ej, List.find?_cons, decide_eq_false (by rw [e]; exact fun z => ej z.symm)]
    · rw [if_pos (by simp [e]), List.find?_cons]
      by_cases ej : kv.1 = j
      · rw [decide_eq_true ej, if_neg (by rw [← ej]; exact e), List.find?_cons, decide_eq_true ej]
      · rw [decide_eq_false ej, ih]
        by_cases ek : j = k
        · rw [if_pos ek, if_pos ek]
        · rw [if_neg ek, if_neg ek, List.find?_cons, decide_eq_false ej]
abbrev Costs := List ((Int × Int) × Int)
def kk (b e : Int) : List Key := [Sum.inl b, Sum.inl e]
def cLook (cl : Costs) (b e : Int) : Option Int := (cl.find? fun q => decide (q.1 = (b, e))).map (·.2)
def cOf (cl : Costs) (b e : Int) : Int := (cLook cl b e).getD 0
end Rs

namespace Rs
open PySem PySem.Spec PyProof.Rows L2
def Sound (c : Int → Int → Int) (b e : Int) (j : Nat) (t s : Int) (ps : List Int) : Prop := Asc b ps t ∧ ps.length = j ∧ s = cutSum c b ps ∧ t ≤ e ∧ (j = 1 → t < e)
structure BestV (c : Int → Int → Int) (b e : Int) (j : Nat) (H : Hp) (kvs : List (Key × V)) : Prop where
  nd : (kvs.map (·.1)).Nodup
  snd : ∀ k v, valV kvs k = some v → ∃ t s ps, k = Sum.inl t ∧ CutAt H v (s, ps) ∧ Sound c b e j t s ps
  cmp : ∀ qs t, Asc b qs t → qs.length = j → t < e → ∃ v s ps, valV kvs (Sum.inl t) = some v ∧ CutAt H v (s, ps) ∧ s ≤ cutSum c b qs
structure LateV (c : Int → Int → Int) (b e : Int) (j : Nat) (Pr : Int → Int → Prop) (H : Hp) (bk lk : List (Key × V)) : Prop where
  nd : (lk.map (·.1)).Nodup
  snd : ∀ k v, valV lk k = some v → ∃ t s ps, k = Sum.inl t ∧ CutAt H v (s, ps) ∧ Sound c b e (j + 1) t s ps
  cmp : ∀ h vh sh ph, valV bk (Sum.inl h) = some vh → CutAt H vh (sh, ph) → ∀ t, Pr h t → h < t → t ≤ e → t - h < e - b → ∃ v s ps, valV lk (Sum.inl t) = some v ∧ CutAt H v (s, ps) ∧ s ≤ sh + c h t
section
variable {c : Int → Int → Int} {b e : Int} {j : Nat} {H H' : Hp} {bk lk : List (Key × V)} {Pr Pr' : Int → Int → Prop}
theorem BestV.tl (B : BestV c b e j H bk) (t : TL H H') : BestV c b e j H' bk :=
  ⟨B.nd, fun k v h => let ⟨a, s, ps, x, y, z⟩ := B.snd k v h; ⟨a, s, ps, x, y.tl t, z⟩, fun qs a x y z => let ⟨v, s, ps, p, q, r⟩ := B.cmp qs a x y z; ⟨v, s, ps, p, q.tl t, r⟩⟩
theorem BestV.few (B : BestV c b e j H bk) (n : Nat) (h : e ≤ b + n) : bk.length ≤ n + 1 := keys_few (b := b) B.nd fun k hk => by
  obtain ⟨kv, hkv, rfl⟩ := List.mem_map.mp hk
  obtain ⟨u, hu⟩ := valV_of_mem (kvs := bk) (k := kv.1) (v := kv.2) hkv
  obtain ⟨t, s, ps, x, _, a, _, _, le, _⟩ := B.snd _ _ hu
  have := asc_le a
  exact ⟨t, x, by omega, by omega⟩
theorem LateV.few (L : LateV c b e j Pr H bk lk) (n : Nat) (h : e ≤ b + n) : lk.length ≤ n + 1 := keys_few (b := b) L.nd fun k hk => by
  obtain ⟨kv, hkv, rfl⟩ := List.mem_map.mp hk
  obtain ⟨u, hu⟩ := valV_of_mem (kvs := lk) (k := kv.1) (v := kv.2) hkv
  obtain ⟨t, s, ps, x, _, a, _, _, le, _⟩ := L.snd _ _ hu
  have := asc_le a
  exact ⟨t, x, by omega, by omega⟩
theorem LateV.tl (L : LateV c b e j Pr H bk lk) (B : BestV c b e j H bk) (t : TL H H') : LateV c b e j Pr H' bk lk :=
  ⟨L.nd, fun k v h => let ⟨a, s, ps, x, y, z⟩ := L.snd k v h; ⟨a, s, ps, x, y.tl t, z⟩, fun h vh sh ph h1 h2 a p q r z => by
    obtain ⟨t0, s0, ps0, x, y, _⟩ := B.snd _ _ h1
    have u := CutAt.uniq (y.tl t) h2
    rw [u] at y
    obtain ⟨v, s, ps, p1, p2, p3⟩ := L.cmp h vh sh ph h1 y a p q r z
    exact ⟨v, s, ps, p1, p2.tl t, p3⟩⟩
theorem LateV.imp (L : LateV c b e j Pr H bk lk) (i : ∀ h t, (valV bk (Sum.inl h)).isSome = true → Pr' h t → h < t → t ≤ e → t - h < e - b → Pr h t) : LateV c b e j Pr' H bk lk :=
  ⟨L.nd, L.snd, fun h vh sh ph h1 h2 a p q r z => L.cmp h vh sh ph h1 h2 a (i h a (by rw [h1]; rfl) p q r z) q r z⟩
theorem LateV.put (L : LateV c b e j Pr H bk lk) {h t s : Int} {vh v : V} {sh : Int} {ph ps : List Int} (hb : valV bk (Sum.inl h) = some vh) (hc : CutAt H vh (sh, ph)) (hv : CutAt H v (s, ps)) (sd : Sound c b e (j + 1) t s ps) (le : s ≤ sh + c h t)
    (old : ∀ u r, valV lk (Sum.inl t) = some u → CutAt H u r → s ≤ r.1) : LateV c b e j (fun h' t' => Pr h' t' ∨ (h' = h ∧ t' = t)) H bk (putK lk (Sum.inl t) v) := by
  refine ⟨putK_nd L.nd, fun k u hk => ?_, fun h' vh' sh' ph' h1 h2 t' p q r z => ?_⟩
  · rw [valV_put] at hk
    split at hk
    · rename_i ek
      cases hk
      exact ⟨t, s, ps, ek, hv, sd⟩
    · exact L.snd k u hk
  · rw [valV_put]
    rcases p with p | ⟨rfl, rfl⟩
    · obtain ⟨u, s', ps', p1, p2, p3⟩ := L.cmp h' vh' sh' ph' h1 h2 t' p q r z
      by_cases et : t' = t
      · subst et
        rw [if_pos rfl]
        have := old u _ p1 p2
        exact ⟨v, s, ps, rfl, hv, by show s ≤ _; have : s ≤ s' := this; omega⟩
      · rw [if_neg (fun x => et (by injection x))]
        exact ⟨u, s', ps', p1, p2, p3⟩
    · rw [if_pos rfl]
      rw [hb] at h1
      cases h1
      have u := CutAt.uniq hc h2
      injection u with u1 u2
      exact ⟨v, s, ps, rfl, hv, by rw [← u1]; exact le⟩
theorem LateV.best (L : LateV c b e j (fun _ _ => True) H bk lk) (B : BestV c b e j H bk) : BestV c b e (j + 1) H lk := by
  refine ⟨L.nd, L.snd, fun qs t a l lt => ?_⟩
  obtain ⟨ps, h, eq, a', hl⟩ := asc_last a (by intro z; rw [z] at l; simp at l)
  have lp : ps.length = j := by rw [eq] at l; simpa using l
  obtain ⟨vh, sh, ph, h1, h2, h3⟩ := B.cmp ps h a' lp (by omega)
  have := asc_le a'
  obtain ⟨v, s, ps', p1, p2, p3⟩ := L.cmp h vh sh ph h1 h2 t trivial hl (by omega) (by omega)
  refine ⟨v, s, ps', p1, p2, ?_⟩
  rw [eq, cut_snoc a']
  omega
theorem LateV.last (L : LateV c b e j (fun _ _ => True) H bk lk) (B : BestV c b e j H bk) {qs : List Int} (a : Asc b qs e) (l : qs.length = j + 1) (h2j : 1 ≤ j) : ∃ v s ps, valV lk (Sum.inl e) = some v ∧ CutAt H v (s, ps) ∧ s ≤ cutSum c b qs := by
  obtain ⟨ps, h, eq, a', hl⟩ := asc_last a (by intro z; rw [z] at l; simp at l)
  have lp : ps.length = j := by rw [eq] at l; simpa using l
  obtain ⟨vh, sh, ph, h1, h2, h3⟩ := B.cmp ps h a' lp hl
  have := asc_le a'
  obtain ⟨v, s, ps', p1, p2, p3⟩ := L.cmp h vh sh ph h1 h2 e trivial hl (by omega) (by omega)
  refine ⟨v, s, ps', p1, p2, ?_⟩
  rw [eq, cut_snoc a']
  omega
theorem BestV.drop (B : BestV c b e j H bk) : BestV c b e j H (dropK bk (Sum.inl e)) := by
  refine ⟨?_, fun k v h => ?_, fun qs t x y z => ?_⟩
  · exact B.nd.sublist ((List.filter_sublist).map _)
  · rw [valV_drop] at h
    split at h
    · cases h
    · exact B.snd k v h
  · obtain ⟨v, s, ps, p, q, r⟩ := B.cmp qs t x y z
    refine ⟨v, s, ps, ?_, q, r⟩
    rw [valV_drop, if_neg (fun w => by injection w with w; omega)]
    exact p
end
theorem Rd.same {H H' : Hp} {a : Addr} {u : HO} (s : Same H H') (r : Rd H a u) : Rd H' a u := by
  rcases r with r | ⟨o, r⟩
  · exact .inl (s _ _ r)
  · exact .inr ⟨o, s _ _ r⟩
end Rs

namespace Rs
open PySem PySem.Spec PyProof.Rows L2
theorem cs_congr {c c' : Int → Int → Int} {b0 e : Int} (h : ∀ p q, b0 ≤ p → p < q → q ≤ e → ¬ (p = b0 ∧ q = e) → c p q = c' p q) : ∀ (ps : List Int) (b : Int), Asc b ps e → b0 ≤ b → (b0 < b ∨ 2 ≤ ps.length) → cutSum c b ps = cutSum c' b ps
  | [], b, _, _, _ => rfl
  | p :: ps, b, a, h0, h1 => by
    have l := asc_le a.2
    have ih := cs_congr h ps p a.2 (by have := a.1; omega) (.inl (by have := a.1; omega))
    show c b p + cutSum c p ps = c' b p + cutSum c' p ps
    rw [ih, h b p h0 a.1 (by omega) ?_]
    rintro ⟨e1, e2⟩
    rcases h1 with h1 | h1
    · omega
    · rw [List.length_cons] at h1
      omega
theorem BestCut.congr {c c' : Int → Int → Int} {b e : Int} {w : Nat} {s : Int} {ps : List Int} (B : BestCut c b e w s ps) (h : ∀ p q, b ≤ p → p < q → q ≤ e → ¬ (p = b ∧ q = e) → c p q = c' p q) : BestCut c' b e w s ps :=
  ⟨B.asc, B.two, B.le, by rw [B.sum]; exact cs_congr h ps b B.asc (Int.le_refl _) (.inr B.two), fun qs a h1 h2 => by rw [← cs_congr h qs b a (Int.le_refl _) (.inr h1)]; exact B.min qs a h1 h2⟩
def segL (ls : List Int) (b e : Int) : List Int := (ls.drop b.toNat).take (e.toNat - b.toNat)
structure NbOk (xs : List (Int × Int)) (ls : List Int) (w : Nat) (cl : Costs) (el : Int → Int → List Int) : Prop where
  keys : cl.map (·.1) = xs
  best : ∀ b e, (b, e) ∈ xs → ∃ s, BestCut (cOf cl) b e w s (el b e) ∧ cOf cl b e = s + (segL ls b e).sum
def EndsV (xs : List (Int × Int)) (H : Hp) (ek : List (List Key × V)) (el : Int → Int → List Int) : Prop := ∀ b e, (b, e) ∈ xs → ∃ l, valV ek (kk b e) = some (.ref l) ∧ H l = some (.lst ((el b e).map V.int))
theorem EndsV.tl {xs : List (Int × Int)} {H H' : Hp} {ek : List (List Key × V)} {el : Int → Int → List Int} (h : EndsV xs H ek el) (t : TL H H') : EndsV xs H' ek el := fun b e m => let ⟨l, a, c⟩ := h b e m; ⟨l, a, t.2 _ _ c⟩
end Rs

namespace Rs
open PySem PySem.Spec PyProof.Rows L2
end Rs

namespace Rs
open PySem PySem.Spec PyProof.Rows L2
def RunE (S : List Addr) : Rel (List Pr) := fun H v xs => ∃ l, v = .ref l ∧ l ∉ S ∧ Lst PairAt H l xs
theorem RunE.same {S : List Addr} {H H' : Hp} {v : V} {xs : List Pr} (h : RunE S H v xs) (s : Same H H') : RunE S H' v xs := let ⟨l, a, b, c⟩ := h; ⟨l, a, b, c.same PairAt.st s⟩
theorem RunE.put {S : List Addr} {D : Addr} {H : Hp} {v : V} {xs : List Pr} {ys zs : List V} (h : RunE S H v xs) (e : H D = some (.lst ys)) (m : D ∈ S) : RunE S (upd H D (.lst zs)) v xs := let ⟨l, a, b, c⟩ := h; ⟨l, a, b, c.keep PairAt.st ((TupLe.refl H).list e) fun o q => up q fun z => b (by rw [z]; exact m)⟩
theorem RunE.more {S : List Addr} {D : Addr} {H : Hp} {v : V} {xs : List Pr} (h : RunE S H v xs) (n : H D = none) : RunE (D :: S) H v xs := by
  obtain ⟨l, a, b, c⟩ := h
  refine ⟨l, a, fun z => ?_, c⟩
  obtain ⟨_, e, _⟩ := c
  rcases List.mem_cons.mp z with z | z
  · rw [z, n] at e
    cases e
  · exact b z
end Rs

namespace Rs
open PySem PySem.Spec PyProof.Rows L2
theorem CInv.start (ls : List Int) : CInv ls.length (rows0 ls) (plans0 ls.length) := by
  refine ⟨fun r hr => ?_, fun q hq => ?_, ?_⟩
  · obtain ⟨i, hi, rfl⟩ := List.mem_map.mp hr
    exact ⟨_, List.mem_map_of_mem (f := fun (i : Nat) => ((i : Int), Pl.leaf (i : Int))) hi, rfl⟩
  · obtain ⟨i, hi, rfl⟩ := List.mem_map.mp hq
    have := List.mem_range.mp hi
    unfold plans0
    rw [List.length_map, List.length_range]
    show (i : Int) < _
    omega
  · unfold rows0
    rw [List.map_map]
    exact nodup_cast (l := List.range ls.length) List.nodup_range
end Rs

namespace Rs
open PySem PySem.Spec PyProof.Rows L2
section
variable {α β : Type} {R : Rel α} {S : Rel β} {H1 H' H4 : Hp} {D : Addr} {dn : List β} {y : V} {b : β}
theorem lcm_tup {K : PySem.W.Frag} {a : Addr} {vs : List V} {xs : List α} {g : TG} {tt : TT} {te : TE} {ws : List Nat} {σ : L2.St} {Qd : Hp → Prop} (f : α → Option β) (st : Stable S) (ha : H1 a = some (.tup vs)) (p : Paired (R H1) vs xs) (hD : H1 D = none)
    (turn : ∀ (j : Nat) (v : V) (x : α) (H' : Hp), xs[j]? = some x → vs[j]? = some v → R H1 v x → Same H1 H' → (∀ H4, Same H' H4 → f x = none → PvL S H1 D ((xs.take (j + 1)).filterMap f) H4) → (∀ H4 y b, Same H' H4 → f x = some b → S H4 y b → ∃ acc, H4 D = some (.lst acc) ∧ acc.length < sizeLine ∧ PvL S H1 D ((xs.take (j + 1)).filterMap f) (upd H4 D (.lst (acc ++ [y])))) →
      g v (wipe σ ws) H' fun σ2 H2 => wipe σ2 ws = wipe σ ws ∧ tt σ2 H2 fun b H3 => if b = true then te σ2 H3 fun y H4 => ∃ acc, H4 D = some (.lst acc) ∧ acc.length < sizeLine ∧ PvL S H1 D ((xs.take (j + 1)).filterMap f) (upd H4 D (.lst (acc ++ [y]))) else PvL S H1 D ((xs.take (j + 1)).filterMap f) H3)
    (hl : xs.length < 100000) (done : ∀ H', Lst S H' D (xs.filterMap f) → Same H1 H' → Qd H') :
    ∃ W : Nat → Nat → Hp → Prop, (∃ m, W 0 m (upd H1 D (.lst []))) ∧ ∀ i m H, W i m H →
      ((Itt K a).stop i H ∧ Qd H) ∨ ((Itt K a).go i H ∧ ∃ Nx : Hp → Prop, (∀ H', Nx H' → ∃ m', m' < m ∧ W (i + 1) m' H') ∧ ∀ x H', (Itt K a).yld i H x H' → g x (wipe σ ws) H' fun σ2 H2 => wipe σ2 ws = wipe σ ws ∧ tt σ2 H2 fun b H3 =>
        if b = true then te σ2 H3 fun y H4 => ∃ acc, H4 D = some (.lst acc) ∧ acc.length < sizeLine ∧ Nx (upd H4 D (.lst (acc ++ [y]))) else Nx H3) := by
  have lp := p.length
  refine lc_tup (K := K) (a := a) (xs := vs) (fun j H' => PvL S H1 D ((xs.take j).filterMap f) H') (lcStart hD) ?_ ?_ ?_
  · rintro j H' _ ⟨_, s⟩
    exact SqT.of (s _ _ ha)
  · rintro j v H' hj P
    obtain ⟨x, hx, r⟩ := P2.get p hj
    have hb : ((xs.take j).filterMap f).length < 100000 := by
      have := List.length_filterMap_le f (xs.take j)
      rw [List.length_take] at this
      omega
    refine turn j v x H' hx hj r P.2 (fun H4 s hf => ?_) (fun H4 y b s hf hy => ?_)
    · rw [take_fm hx, hf, Option.toList_none, List.append_nil]
      exact lcSkip st P s
    · rw [take_fm hx, hf]
      exact lcPut st hD P s hy hb
  · rintro H' ⟨L, s⟩
    rw [List.take_of_length_le (by omega)] at L
    exact done H' L s
end
def StrAt : Rel Str := fun _ v x => v = .str x
theorem StrAt.st : Stable StrAt := fun _ _ _ _ _ h => h
open _root_.TL
def numS (n : Int) : Str := Str.ofString (toString n)
mutual
def Pl.words : Pl → List Str
  | .leaf n => [numS n]
  | .node ps => ("(" : Str) :: (Pl.wordsL ps ++ [(")" : Str)])
def Pl.wordsL : List Pl → List Str
  | [] => []
  | p :: ps => p.words ++ Pl.wordsL ps
end
mutual
def Pl.text : Pl → Str
  | .leaf n => numS n
  | .node ps => (("( " : Str) ++ Txt.join (" " : Str) (Pl.textL ps)) ++ (" )" : Str)
def Pl.textL : List Pl → List Str
  | [] => []
  | p :: ps => p.text :: Pl.textL ps
end
end Rs

namespace Rs
open PySem PySem.Spec PyProof.Rows L2
mutual
def Pl.slim : Pl → Prop
  | .leaf _ => True
  | .node ps => ps.length ≤ 1000 ∧ Pl.slimL ps
def Pl.slimL : List Pl → Prop
  | [] => True
  | p :: ps => p.slim ∧ Pl.slimL ps
end
theorem Pl.slimL_of {ps : List Pl} (h : Pl.slimL ps) : ∀ p ∈ ps, p.slim := by
  induction ps with
  | nil => intro p hp; simp at hp
  | cons q ps ih =>
    rw [Pl.slimL] at h
    intro p hp
    rcases List.mem_cons.mp hp with e | e
    · rw [e]; exact h.1
    · exact ih h.2 p e
end Rs

namespace Rs
open PySem PySem.Spec PyProof.Rows L2
open _root_.TL
end Rs

namespace Rs
open PySem PySem.Spec PyProof.Rows L2
open _root_.TL
theorem num_ne {n : Nat} (h : n < 100) : numS n ≠ ("(" : Str) ∧ numS n ≠ (")" : Str) ∧ numS n ≠ ("" : Str) := by
  have : ∀ n : Nat, n < 100 → numS n ≠ ("(" : Str) ∧ numS n ≠ (")" : Str) ∧ numS n ≠ ("" : Str) := by decide +kernel
  exact this n h
theorem Pl.first {p : Pl} (hr : ∀ r ∈ p.runs, 0 ≤ r ∧ r < 100) : ∃ w r, p.words = w :: r ∧ w ≠ (")" : Str) := by
  cases p with
  | leaf n =>
    obtain ⟨h0, h1⟩ := hr n (by simp [Pl.runs])
    have e : n = ((n.toNat : Nat) : Int) := by omega
    refine ⟨numS n, [], by rw [Pl.words], ?_⟩
    rw [e]
    exact (num_ne (by omega)).2.1
  | node ps => exact ⟨"(", _, by rw [Pl.words], by decide +kernel⟩
end Rs

namespace Rs
open PySem PySem.Spec PyProof.Rows L2
open _root_.TL
open _root_.TL
open _root_.TL
end Rs

namespace Rs
open PySem PySem.Spec PyProof.Rows L2
end Rs

namespace Rs
open PySem PySem.Spec PyProof.Rows L2
def kd (w D : Nat) (ds : List Nat) : Nat := (ds.map fun d => w ^ (D - d)).sum
end Rs

namespace Rs
open PySem PySem.Spec PyProof.Rows L2
end Rs

namespace Rs
open PySem PySem.Spec PyProof.Rows L2
def Full (w n : Nat) : Prop := n = 1 ∨ (2 ≤ n ∧ hm n w = w)
theorem Full.le {w n : Nat} (hw : 2 ≤ w) (h : Full w n) (hn : 2 ≤ n) : w ≤ n := by
  rcases h with h | ⟨_, h⟩
  · omega
  · have := (hm_le hn hw).2.1
    omega
end Rs

namespace Rs
open PySem PySem.Spec PyProof.Rows L2
mutual
def Pl.wc : Pl → Int
  | .leaf _ => 0
  | .node ps => (Pl.runsL ps).sum + Pl.wcL ps
def Pl.wcL : List Pl → Int
  | [] => 0
  | p :: ps => p.wc + Pl.wcL ps
end
mutual
def Pl.sub (f : Int → Int) : Pl → Pl
  | .leaf n => .leaf (f n)
  | .node ps => .node (Pl.subL f ps)
def Pl.subL (f : Int → Int) : List Pl → List Pl
  | [] => []
  | p :: ps => p.sub f :: Pl.subL f ps
end
structure NOpt (w : Nat) (ls : List Int) (v : Int) : Prop where
  got : ∃ pl : Pl, pl.fits w = true ∧ pl.runs = ls ∧ pl.wc = v
  min : ∀ pl : Pl, pl.fits w = true → pl.runs = ls → v ≤ pl.wc
theorem NOpt.uniq {w : Nat} {ls : List Int} {u v : Int} (a : NOpt w ls u) (b : NOpt w ls v) : u = v := by
  obtain ⟨p, p1, p2, p3⟩ := a.got
  obtain ⟨q, q1, q2, q3⟩ := b.got
  have := a.min q q1 q2
  have := b.min p p1 p2
  omega
end Rs

namespace Rs
open PySem PySem.Spec PyProof.Rows L2
section
variable {w : Nat} {ls : List Int} {c : Int → Int → Int}
end
end Rs

namespace Rs
open PySem PySem.Spec PyProof.Rows L2
def TripAt : Rel ((Int × Int) × Int) := fun H v q => IsTp H v [.int q.1.1, .int q.1.2, .int q.2]
theorem TripAt.st : Stable TripAt := fun _ _ _ _ t h => IsTp.mono t h
def DPairAt : Rel ((Int × Int) × Int) := fun H v q => ∃ t b, v = .ref t ∧ H t = some (.tup [.ref b, .int q.2]) ∧ H b = some (.tup [.int q.1.1, .int q.1.2])
theorem DPairAt.st : Stable DPairAt := fun _ _ _ _ t ⟨a, b, e, h1, h2⟩ => ⟨a, b, e, t _ _ h1, t _ _ h2⟩
end Rs

namespace Rs
open PySem PySem.Spec PyProof.Rows L2
def KnownN (w : Nat) (kvs : List (List Key × V)) : Prop := ∀ (ns : List Int) (v : V), valV kvs (ns.map Sum.inl : List Key) = some v → ∃ m, v = .int m ∧ NOpt w ns m
theorem KnownN.put {w : Nat} {kvs : List (List Key × V)} {ns : List Int} {m : Int} (h : KnownN w kvs) (n : NOpt w ns m) : KnownN w (putK kvs (ns.map Sum.inl) (.int m)) := fun ms v e => by
  rw [valV_put] at e
  by_cases c : (ms.map Sum.inl : List Key) = ns.map Sum.inl
  · rw [if_pos c] at e
    have : ms = ns := (List.map_inj_right (fun x y h => by injection h)).mp c
    rw [this]
    injection e with e
    exact ⟨m, e.symm, n⟩
  · rw [if_neg c] at e
    exact h ms v e
end Rs

namespace Rs
open PySem PySem.Spec PyProof.Rows L2
theorem BestCut.uniq {c : Int → Int → Int} {b e s s' : Int} {w : Nat} {ps ps' : List Int} (B : BestCut c b e w s ps) (B' : BestCut c b e w s' ps') : s = s' := by
  have a := B.min ps' B'.asc B'.two B'.le
  have b := B'.min ps B.asc B.two B.le
  rw [← B'.sum] at a
  rw [← B.sum] at b
  omega
end Rs

namespace Rs
open PySem PySem.Spec PyProof.Rows L2
structure TxtDisk (K : PySem.W.Frag) : Prop where
  cl : Cls K (He.ga K "Disk")
  n_settled : NoAttr K (He.ga K "Disk") "settled"
  n_waiting : NoAttr K (He.ga K "Disk") "waiting"
  n_left : NoAttr K (He.ga K "Disk") "left"
  n_picks : NoAttr K (He.ga K "Disk") "picks"
  n_is_down : NoAttr K (He.ga K "Disk") "is_down"
def f_Disk (x0 x1 x2 x3 x4 : V) : List (Str × V) := [(("settled" : Str), x0), (("waiting" : Str), x1), (("left" : Str), x2), (("picks" : Str), x3), (("is_down" : Str), x4)]
def DiskOb (K : PySem.W.Frag) (H : Hp) (p : Addr) (x0 x1 x2 x3 x4 : V) : Prop := ∃ dx, H p = some (.ins (He.ga K "Disk") dx (f_Disk x0 x1 x2 x3 x4))
section
variable {K : PySem.W.Frag} {x0 x1 x2 x3 x4 y : V} {H : Hp} {Q : VK} {p : Addr} {D : Ends} {σ : L2.St}
theorem fl_Disk_settled : (f_Disk x0 x1 x2 x3 x4).lookup ("settled" : Str) = some x0 := by
  unfold f_Disk
  rw [lk_hd]
theorem g_Disk_settled (T : TxtDisk K) (h : DiskOb K H p x0 x1 x2 x3 x4) (q : Q x0 H) : rFld K "settled" (.ref p) H Q := let ⟨dx, h⟩ := h; ⟨p, _, dx, _, _, rfl, h, T.cl, T.n_settled, fl_Disk_settled, q⟩
theorem fl_Disk_waiting : (f_Disk x0 x1 x2 x3 x4).lookup ("waiting" : Str) = some x1 := by
  unfold f_Disk
  rw [lk_tl (by decide +kernel), lk_hd]
theorem pf_Disk_waiting : putF "waiting" y (f_Disk x0 x1 x2 x3 x4) = f_Disk x0 y x2 x3 x4 := by
  unfold f_Disk
  rw [put_tl (by decide +kernel), put_hd]
theorem g_Disk_waiting (T : TxtDisk K) (h : DiskOb K H p x0 x1 x2 x3 x4) (q : Q x1 H) : rFld K "waiting" (.ref p) H Q := let ⟨dx, h⟩ := h; ⟨p, _, dx, _, _, rfl, h, T.cl, T.n_waiting, fl_Disk_waiting, q⟩
theorem s_Disk_waiting (T : TxtDisk K) (h : DiskOb K H p x0 x1 x2 x3 x4) (q : ∀ dx, H p = some (.ins (He.ga K "Disk") dx (f_Disk x0 x1 x2 x3 x4)) → D.nx σ (upd H p (.ins (He.ga K "Disk") dx (f_Disk x0 y x2 x3 x4)))) : rSFl K "waiting" (.ref p) y D σ H := by
  obtain ⟨dx, h⟩ := h
  refine ⟨p, _, dx, _, rfl, h, T.cl, T.n_waiting, by show 5 < 1000; decide, ?_⟩
  rw [pf_Disk_waiting]
  exact q dx h
theorem fl_Disk_left : (f_Disk x0 x1 x2 x3 x4).lookup ("left" : Str) = some x2 := by
  unfold f_Disk
  rw [lk_tl (by decide +kernel), lk_tl (by decide +kernel), lk_hd]
theorem pf_Disk_left : putF "left" y (f_Disk x0 x1 x2 x3 x4) = f_Disk x0 x1 y x3 x4 := by
  unfold f_Disk
  rw [put_tl (by decide +kernel), put_tl (by decide +kernel), put_hd]
theorem g_Disk_left (T : TxtDisk K) (h : DiskOb K H p x0 x1 x2 x3 x4) (q : Q x2 H) : rFld K "left" (.ref p) H Q := let ⟨dx, h⟩ := h; ⟨p, _, dx, _, _, rfl, h, T.cl, T.n_left, fl_Disk_left, q⟩
theorem s_Disk_left (T : TxtDisk K) (h : DiskOb K H p x0 x1 x2 x3 x4) (q : ∀ dx, H p = some (.ins (He.ga K "Disk") dx (f_Disk x0 x1 x2 x3 x4)) → D.nx σ (upd H p (.ins (He.ga K "Disk") dx (f_Disk x0 x1 y x3 x4)))) : rSFl K "left" (.ref p) y D σ H := by
  obtain ⟨dx, h⟩ := h
  refine ⟨p, _, dx, _, rfl, h, T.cl, T.n_left, by show 5 < 1000; decide, ?_⟩
  rw [pf_Disk_left]
  exact q dx h
theorem fl_Disk_picks : (f_Disk x0 x1 x2 x3 x4).lookup ("picks" : Str) = some x3 := by
  unfold f_Disk
  rw [lk_tl (by decide +kernel), lk_tl (by decide +kernel), lk_tl (by decide +kernel), lk_hd]
theorem pf_Disk_picks : putF "picks" y (f_Disk x0 x1 x2 x3 x4) = f_Disk x0 x1 x2 y x4 := by
  unfold f_Disk
  rw [put_tl (by decide +kernel), put_tl (by decide +kernel), put_tl (by decide +kernel), put_hd]
theorem g_Disk_picks (T : TxtDisk K) (h : DiskOb K H p x0 x1 x2 x3 x4) (q : Q x3 H) : rFld K "picks" (.ref p) H Q := let ⟨dx, h⟩ := h; ⟨p, _, dx, _, _, rfl, h, T.cl, T.n_picks, fl_Disk_picks, q⟩
theorem s_Disk_picks (T : TxtDisk K) (h : DiskOb K H p x0 x1 x2 x3 x4) (q : ∀ dx, H p = some (.ins (He.ga K "Disk") dx (f_Disk x0 x1 x2 x3 x4)) → D.nx σ (upd H p (.ins (He.ga K "Disk") dx (f_Disk x0 x1 x2 y x4)))) : rSFl K "picks" (.ref p) y D σ H := by
  obtain ⟨dx, h⟩ := h
  refine ⟨p, _, dx, _, rfl, h, T.cl, T.n_picks, by show 5 < 1000; decide, ?_⟩
  rw [pf_Disk_picks]
  exact q dx h
theorem fl_Disk_is_down : (f_Disk x0 x1 x2 x3 x4).lookup ("is_down" : Str) = some x4 := by
  unfold f_Disk
  rw [lk_tl (by decide +kernel), lk_tl (by decide +kernel), lk_tl (by decide +kernel), lk_tl (by decide +kernel), lk_hd]
theorem pf_Disk_is_down : putF "is_down" y (f_Disk x0 x1 x2 x3 x4) = f_Disk x0 x1 x2 x3 y := by
  unfold f_Disk
  rw [put_tl (by decide +kernel), put_tl (by decide +kernel), put_tl (by decide +kernel), put_tl (by decide +kernel), put_hd]
theorem g_Disk_is_down (T : TxtDisk K) (h : DiskOb K H p x0 x1 x2 x3 x4) (q : Q x4 H) : rFld K "is_down" (.ref p) H Q := let ⟨dx, h⟩ := h; ⟨p, _, dx, _, _, rfl, h, T.cl, T.n_is_down, fl_Disk_is_down, q⟩
theorem s_Disk_is_down (T : TxtDisk K) (h : DiskOb K H p x0 x1 x2 x3 x4) (q : ∀ dx, H p = some (.ins (He.ga K "Disk") dx (f_Disk x0 x1 x2 x3 x4)) → D.nx σ (upd H p (.ins (He.ga K "Disk") dx (f_Disk x0 x1 x2 x3 y)))) : rSFl K "is_down" (.ref p) y D σ H := by
  obtain ⟨dx, h⟩ := h
  refine ⟨p, _, dx, _, rfl, h, T.cl, T.n_is_down, by show 5 < 1000; decide, ?_⟩
  rw [pf_Disk_is_down]
  exact q dx h
theorem no_Disk_need_block : (f_Disk x0 x1 x2 x3 x4).lookup ("need_block" : Str) = none := by
  unfold f_Disk
  rw [lk_tl (by decide +kernel), lk_tl (by decide +kernel), lk_tl (by decide +kernel), lk_tl (by decide +kernel), lk_tl (by decide +kernel), lk_nil]
theorem no_Disk_deed : (f_Disk x0 x1 x2 x3 x4).lookup ("deed" : Str) = none := by
  unfold f_Disk
  rw [lk_tl (by decide +kernel), lk_tl (by decide +kernel), lk_tl (by decide +kernel), lk_tl (by decide +kernel), lk_tl (by decide +kernel), lk_nil]
theorem no_Disk_write : (f_Disk x0 x1 x2 x3 x4).lookup ("write" : Str) = none := by
  unfold f_Disk
  rw [lk_tl (by decide +kernel), lk_tl (by decide +kernel), lk_tl (by decide +kernel), lk_tl (by decide +kernel), lk_tl (by decide +kernel), lk_nil]
theorem no_Disk_settle : (f_Disk x0 x1 x2 x3 x4).lookup ("settle" : Str) = none := by
  unfold f_Disk
  rw [lk_tl (by decide +kernel), lk_tl (by decide +kernel), lk_tl (by decide +kernel), lk_tl (by decide +kernel), lk_tl (by decide +kernel), lk_nil]
theorem no_Disk_read : (f_Disk x0 x1 x2 x3 x4).lookup ("read" : Str) = none := by
  unfold f_Disk
  rw [lk_tl (by decide +kernel), lk_tl (by decide +kernel), lk_tl (by decide +kernel), lk_tl (by decide +kernel), lk_tl (by decide +kernel), lk_nil]
theorem no_Disk_arm : (f_Disk x0 x1 x2 x3 x4).lookup ("arm" : Str) = none := by
  unfold f_Disk
  rw [lk_tl (by decide +kernel), lk_tl (by decide +kernel), lk_tl (by decide +kernel), lk_tl (by decide +kernel), lk_tl (by decide +kernel), lk_nil]
theorem no_Disk_stop : (f_Disk x0 x1 x2 x3 x4).lookup ("stop" : Str) = none := by
  unfold f_Disk
  rw [lk_tl (by decide +kernel), lk_tl (by decide +kernel), lk_tl (by decide +kernel), lk_tl (by decide +kernel), lk_tl (by decide +kernel), lk_nil]
theorem no_Disk_again : (f_Disk x0 x1 x2 x3 x4).lookup ("again" : Str) = none := by
  unfold f_Disk
  rw [lk_tl (by decide +kernel), lk_tl (by decide +kernel), lk_tl (by decide +kernel), lk_tl (by decide +kernel), lk_tl (by decide +kernel), lk_nil]
theorem no_Disk_blocks : (f_Disk x0 x1 x2 x3 x4).lookup ("blocks" : Str) = none := by
  unfold f_Disk
  rw [lk_tl (by decide +kernel), lk_tl (by decide +kernel), lk_tl (by decide +kernel), lk_tl (by decide +kernel), lk_tl (by decide +kernel), lk_nil]
end
def i_Disk_1 (x0 : V) : List (Str × V) := [(("settled" : Str), x0)]
def i_Disk_2 (x0 x1 : V) : List (Str × V) := [(("settled" : Str), x0), (("waiting" : Str), x1)]
def i_Disk_3 (x0 x1 x2 : V) : List (Str × V) := [(("settled" : Str), x0), (("waiting" : Str), x1), (("left" : Str), x2)]
def i_Disk_4 (x0 x1 x2 x3 : V) : List (Str × V) := [(("settled" : Str), x0), (("waiting" : Str), x1), (("left" : Str), x2), (("picks" : Str), x3)]
def i_Disk_5 (x0 x1 x2 x3 x4 : V) : List (Str × V) := [(("settled" : Str), x0), (("waiting" : Str), x1), (("left" : Str), x2), (("picks" : Str), x3), (("is_down" : Str), x4)]
section
variable {K : PySem.W.Frag} {x0 x1 x2 x3 x4 y : V} {H : Hp} {Q : VK} {p dx : Addr} {D : Ends} {σ : L2.St}
theorem n_Disk_settled (T : TxtDisk K) (h : H p = some (.ins (He.ga K "Disk") dx [])) (q : D.nx σ (upd H p (.ins (He.ga K "Disk") dx (i_Disk_1  y)))) : rSFl K "settled" (.ref p) y D σ H := by
  refine ⟨p, _, dx, _, rfl, h, T.cl, T.n_settled, by show 0 < 1000; decide, ?_⟩
  have e : putF "settled" y [] = i_Disk_1  y := by
    rw [put_nil] <;> rfl
  rw [e]
  exact q
theorem n_Disk_waiting (T : TxtDisk K) (h : H p = some (.ins (He.ga K "Disk") dx (i_Disk_1 x0))) (q : D.nx σ (upd H p (.ins (He.ga K "Disk") dx (i_Disk_2 x0 y)))) : rSFl K "waiting" (.ref p) y D σ H := by
  refine ⟨p, _, dx, _, rfl, h, T.cl, T.n_waiting, by show 1 < 1000; decide, ?_⟩
  have e : putF "waiting" y (i_Disk_1 x0) = i_Disk_2 x0 y := by
    unfold i_Disk_1
    rw [put_tl (by decide +kernel), put_nil] <;> rfl
  rw [e]
  exact q
theorem n_Disk_left (T : TxtDisk K) (h : H p = some (.ins (He.ga K "Disk") dx (i_Disk_2 x0 x1))) (q : D.nx σ (upd H p (.ins (He.ga K "Disk") dx (i_Disk_3 x0 x1 y)))) : rSFl K "left" (.ref p) y D σ H := by
  refine ⟨p, _, dx, _, rfl, h, T.cl, T.n_left, by show 2 < 1000; decide, ?_⟩
  have e : putF "left" y (i_Disk_2 x0 x1) = i_Disk_3 x0 x1 y := by
    unfold i_Disk_2
    rw [put_tl (by decide +kernel), put_tl (by decide +kernel), put_nil] <;> rfl
  rw [e]
  exact q
theorem n_Disk_picks (T : TxtDisk K) (h : H p = some (.ins (He.ga K "Disk") dx (i_Disk_3 x0 x1 x2))) (q : D.nx σ (upd H p (.ins (He.ga K "Disk") dx (i_Disk_4 x0 x1 x2 y)))) : rSFl K "picks" (.ref p) y D σ H := by
  refine ⟨p, _, dx, _, rfl, h, T.cl, T.n_picks, by show 3 < 1000; decide, ?_⟩
  have e : putF "picks" y (i_Disk_3 x0 x1 x2) = i_Disk_4 x0 x1 x2 y := by
    unfold i_Disk_3
    rw [put_tl (by decide +kernel), put_tl (by decide +kernel), put_tl (by decide +kernel), put_nil] <;> rfl
  rw [e]
  exact q
theorem n_Disk_is_down (T : TxtDisk K) (h : H p = some (.ins (He.ga K "Disk") dx (i_Disk_4 x0 x1 x2 x3))) (q : D.nx σ (upd H p (.ins (He.ga K "Disk") dx (i_Disk_5 x0 x1 x2 x3 y)))) : rSFl K "is_down" (.ref p) y D σ H := by
  refine ⟨p, _, dx, _, rfl, h, T.cl, T.n_is_down, by show 4 < 1000; decide, ?_⟩
  have e : putF "is_down" y (i_Disk_4 x0 x1 x2 x3) = i_Disk_5 x0 x1 x2 x3 y := by
    unfold i_Disk_4
    rw [put_tl (by decide +kernel), put_tl (by decide +kernel), put_tl (by decide +kernel), put_tl (by decide +kernel), put_nil] <;> rfl
  rw [e]
  exact q
end
inductive Dt where
  | int (n : Int)
  | str (s : Str)
  | bool (b : Bool)
  | non
  | tup (ds : List Dt)
instance : Inhabited Dt := ⟨.non⟩
mutual
def Dt.weight : Dt → Nat
  | .tup ds => Dt.weightL ds
  | _ => 1
def Dt.weightL : List Dt → Nat
  | [] => 0
  | d :: ds => d.weight + Dt.weightL ds
end
mutual
def Dt.depth : Dt → Nat
  | .tup ds => Dt.depthL ds + 1
  | _ => 0
def Dt.depthL : List Dt → Nat
  | [] => 0
  | d :: ds => max d.depth (Dt.depthL ds)
end
mutual
/-- no tuple is long -/
def Dt.slim : Dt → Prop
  | .tup ds => ds.length ≤ 1000 ∧ Dt.slimL ds
  | _ => True
def Dt.slimL : List Dt → Prop
  | [] => True
  | d :: ds => d.slim ∧ Dt.slimL ds
end
mutual
inductive DtA (H : Hp) : V → Dt → Prop
  | int (n : Int) : DtA H (.int n) (.int n)
  | str (s : Str) : DtA H (.str s) (.str s)
  | bool (b : Bool) : DtA H (.bl b) (.bool b)
  | non : DtA H .non .non
  | tup {a : Addr} {vs : List V} {ds : List Dt} : H a = some (.tup vs) → DtAll H vs ds → DtA H (.ref a) (.tup ds)
inductive DtAll (H : Hp) : List V → List Dt → Prop
  | nil : DtAll H [] []
  | cons {v : V} {d : Dt} {vs : List V} {ds : List Dt} : DtA H v d → DtAll H vs ds → DtAll H (v :: vs) (d :: ds)
end
mutual
theorem DtA.mono {H H' : Hp} (t : TupLe H H') : ∀ (d : Dt) (v : V), DtA H v d → DtA H' v d
  | .int n, _, h => by cases h; exact .int n
  | .str n, _, h => by cases h; exact .str n
  | .bool n, _, h => by cases h; exact .bool n
  | .non, _, h => by cases h; exact .non
  | .tup ds, _, h => by
    cases h with
    | tup e a => exact .tup (t _ _ e) (DtAll.mono t ds _ a)
theorem DtAll.mono {H H' : Hp} (t : TupLe H H') : ∀ (ds : List Dt) (vs : List V), DtAll H vs ds → DtAll H' vs ds
  | [], _, h => by cases h; exact .nil
  | d :: ds, _, h => by
    cases h with
    | cons a b => exact .cons (DtA.mono t d _ a) (DtAll.mono t ds _ b)
end
def DtAt : Rel Dt := DtA
theorem DtAt.st : Stable DtAt := fun _ _ v d t h => DtA.mono t d v h
theorem DtAll.of {H : Hp} : ∀ {vs : List V} {ds : List Dt}, Paired (DtAt H) vs ds → DtAll H vs ds
  | _, _, .nil => .nil
  | _, _, .cons a b => .cons a (DtAll.of b)
theorem DtAll.to {H : Hp} : ∀ {vs : List V} {ds : List Dt}, DtAll H vs ds → Paired (DtAt H) vs ds
  | _, _, .nil => .nil
  | _, _, .cons a b => .cons a (DtAll.to b)
theorem DtAt.tup {H : Hp} {a : Addr} {vs : List V} {ds : List Dt} (e : H a = some (.tup vs)) (p : Paired (DtAt H) vs ds) : DtAt H (.ref a) (.tup ds) := DtA.tup e (DtAll.of p)
theorem DtAt.untup {H : Hp} {v : V} {ds : List Dt} (h : DtAt H v (.tup ds)) : ∃ a vs, v = .ref a ∧ H a = some (.tup vs) ∧ Paired (DtAt H) vs ds := by
  cases h with
  | tup e a => exact ⟨_, _, rfl, e, DtAll.to a⟩
theorem Dt.depthL_le {ds : List Dt} {d : Dt} (h : d ∈ ds) : d.depth ≤ Dt.depthL ds := by
  induction ds with
  | nil => simp at h
  | cons q ds ih =>
    rw [Dt.depthL]
    rcases List.mem_cons.mp h with e | e
    · rw [e]; omega
    · have := ih e; omega
theorem Dt.slimL_of {ds : List Dt} (h : Dt.slimL ds) : ∀ d ∈ ds, d.slim := by
  induction ds with
  | nil => intro d hd; simp at hd
  | cons q ds ih =>
    rw [Dt.slimL] at h
    intro d hd
    rcases List.mem_cons.mp hd with e | e
    · rw [e]; exact h.1
    · exact ih h.2 d e
theorem Dt.weightL_map (ds : List Dt) : Dt.weightL ds = (ds.map Dt.weight).sum := by
  induction ds with
  | nil => rfl
  | cons d ds ih => rw [Dt.weightL, ih, List.map_cons, List.sum_cons]
structure DiskM where
  settled : List Dt
  waiting : List (Nat × Dt)
  left : Option Nat
  picks : List Bool
  down : Bool
inductive Deed where
  | wr (b : Nat) (d : Dt)
  | st
def fallS : List Dt → List (Nat × Dt) → List Bool → List Dt
  | s, q :: w, p :: ps => fallS (if p = true then s.set q.1 q.2 else s) w ps
  | s, _, _ => s
def setS (s : List Dt) (w : List (Nat × Dt)) : List Dt := w.foldl (fun s q => s.set q.1 q.2) s
def DiskM.fall (D : DiskM) (ps : List Bool) : DiskM := ⟨fallS D.settled D.waiting ps, [], D.left, D.picks, true⟩
def DiskM.deed (D : DiskM) : DiskM × Bool :=
  if D.down = true then (D, true) else match D.left with
    | none => (D, false)
    | some 0 => (D.fall D.picks, true)
    | some (n + 1) => (⟨D.settled, D.waiting, some n, D.picks, D.down⟩, false)
def DiskM.act (D : DiskM) : Deed → DiskM
  | .wr b d => ⟨D.settled, D.waiting ++ [(b, d)], D.left, D.picks, D.down⟩
  | .st => ⟨setS D.settled D.waiting, [], D.left, D.picks, D.down⟩
def DiskM.does (D : DiskM) (x : Deed) : DiskM × Bool := if D.deed.2 = true then D.deed else (D.deed.1.act x, false)
def DiskM.run : DiskM → List Deed → DiskM × Bool
  | D, [] => (D, false)
  | D, x :: r => if (D.does x).2 = true then D.does x else (D.does x).1.run r
theorem setS_len (w : List (Nat × Dt)) : ∀ s : List Dt, (setS s w).length = s.length := by
  induction w with
  | nil => intro s; rfl
  | cons q w ih => intro s; show (setS (s.set q.1 q.2) w).length = _; rw [ih, List.length_set]
theorem fallS_len : ∀ (w : List (Nat × Dt)) (s : List Dt) (ps : List Bool), (fallS s w ps).length = s.length
  | [], s, [] => rfl
  | [], s, _ :: _ => rfl
  | _ :: _, s, [] => rfl
  | q :: w, s, p :: ps => by
    show (fallS (if p = true then s.set q.1 q.2 else s) w ps).length = _
    rw [fallS_len w]
    split
    · rw [List.length_set]
    · rfl
def DiskM.get (D : DiskM) (b : Nat) : Dt := ((D.waiting.reverse.find? fun q => decide (q.1 = b)).map (·.2)).getD (D.settled.getD b .non)
def leftV : Option Nat → V
  | none => .non
  | some n => .int (n : Int)
def WtAt : Rel (Nat × Dt) := fun H v q => ∃ w, IsTp H v [.int (q.1 : Int), w] ∧ DtAt H w q.2
theorem WtAt.st : Stable WtAt := fun _ _ _ _ t ⟨w, a, b⟩ => ⟨w, a.mono t, DtAt.st _ _ _ _ t b⟩
structure DiskAt (K : PySem.W.Frag) (H : Hp) (p : Addr) (F : List Addr) (D : DiskM) : Prop where
  ex : ∃ ls lw lp, F = [p, ls, lw, lp] ∧ DiskOb K H p (.ref ls) (.ref lw) (leftV D.left) (.ref lp) (.bl D.down) ∧ Lst DtAt H ls D.settled ∧ Lst WtAt H lw D.waiting ∧ H lp = some (.lst (D.picks.map V.bl)) ∧ ls ≠ lw ∧ ls ≠ lp ∧ lw ≠ lp
  len : D.settled.length = 600
  few : D.waiting.length ≤ 5000
  at_ : ∀ q ∈ D.waiting, q.1 < 600
theorem DiskOb.keep {K : PySem.W.Frag} {H H' : Hp} {p : Addr} {x0 x1 x2 x3 x4 : V} (h : DiskOb K H p x0 x1 x2 x3 x4) (k : ∀ o, H p = some o → H' p = some o) : DiskOb K H' p x0 x1 x2 x3 x4 := let ⟨dx, e⟩ := h; ⟨dx, k _ e⟩
theorem Lst.ne {α : Type} {R : Rel α} {H : Hp} {l p : Addr} {xs : List α} {C dx : Addr} {fs : List (Str × V)} (h : Lst R H l xs) (e : H p = some (.ins C dx fs)) : p ≠ l := by
  obtain ⟨vs, e2, _⟩ := h
  exact ne_of e e2 (by intro z; cases z)
def Own (F F' : List Addr) (H : Hp) : Prop := ∀ x ∈ F', x ∈ F ∨ H x = none
theorem Own.refl (F : List Addr) (H : Hp) : Own F F H := fun _ h => .inl h
theorem Own.trans {F F1 F2 : List Addr} {H H1 : Hp} (a : Own F F1 H) (b : Own F1 F2 H1) (k : But F H H1) : Own F F2 H := fun x h => by
  rcases b x h with z | z
  · exact a x z
  · by_cases n : x ∈ F
    · exact .inl n
    · exact .inr (none_of_but k z n)
theorem But.own {F F1 : List Addr} {H H1 H2 : Hp} (a : But F H H1) (o : Own F F1 H) (b : But F1 H1 H2) : But F H H2 := fun x u e n => b x u (a x u e n) fun z => by
  rcases o x z with y | y
  · exact n y
  · rw [y] at e; cases e
def Out (K : PySem.W.Frag) (H : Hp) (p : Addr) (F : List Addr) (o : DiskM × Bool) (q e : Hp → Prop) : Prop := ∀ H' F', DiskAt K H' p F' o.1 → But F H H' → Own F F' H → if o.2 = true then e H' else q H'
section
variable {K : PySem.W.Frag} {H H' : Hp} {p : Addr} {F : List Addr} {D : DiskM}
theorem DiskAt.tup (h : DiskAt K H p F D) (k : But F H H') : TupLe H H' := fun c xs e => by
  obtain ⟨ls, lw, lp, rfl, ⟨dx, ob⟩, ⟨_, e1, _⟩, ⟨_, e2, _⟩, e3, _⟩ := h.ex
  refine k c _ e fun z => ?_
  simp only [List.mem_cons, List.not_mem_nil, or_false] at z
  rcases z with rfl | rfl | rfl | rfl
  · rw [ob] at e; cases e
  · rw [e1] at e; cases e
  · rw [e2] at e; cases e
  · rw [e3] at e; cases e
theorem DiskAt.keep (h : DiskAt K H p F D) (t : TupLe H H') (k : ∀ x o, x ∈ F → H x = some o → H' x = some o) : DiskAt K H' p F D := by
  obtain ⟨ls, lw, lp, rfl, ob, l1, l2, e3, ne⟩ := h.ex
  exact ⟨⟨ls, lw, lp, rfl, ob.keep fun o e => k _ o (by simp) e, l1.keep DtAt.st t fun o e => k _ o (by simp) e, l2.keep WtAt.st t fun o e => k _ o (by simp) e, k _ _ (by simp) e3, ne⟩, h.len, h.few, h.at_⟩
theorem DiskAt.same (h : DiskAt K H p F D) (s : Same H H') : DiskAt K H' p F D := h.keep (TupLe.same s) fun x o _ e => s x o e
theorem DiskAt.there (h : DiskAt K H p F D) : ∀ x ∈ F, ∃ u, H x = some u := fun x hx => by
  obtain ⟨ls, lw, lp, rfl, ⟨dx, ob⟩, ⟨_, e1, _⟩, ⟨_, e2, _⟩, e3, _⟩ := h.ex
  simp only [List.mem_cons, List.not_mem_nil, or_false] at hx
  rcases hx with rfl | rfl | rfl | rfl
  · exact ⟨_, ob⟩
  · exact ⟨_, e1⟩
  · exact ⟨_, e2⟩
  · exact ⟨_, e3⟩
theorem DiskAt.fresh (h : DiskAt K H p F D) {x : Addr} (n : H x = none) : x ∉ F := fun z => by
  obtain ⟨u, e⟩ := h.there x z
  rw [n] at e
  cases e
end
end Rs

namespace Rs
open PySem PySem.Spec PyProof.Rows L2
open LamX
abbrev N_law_class : List Str := ["_law_e", "_law_kinds", "_law_words"]
abbrev P_law_class : List Str := ["_law_e"]
def t_law_class (K : PySem.W.Frag) (D a : Addr) (d : Option Addr) : TS := (tSeq (tAsg (tLst (tCons (tCB (rIsX K D a d) (tCons (tVar 0) (tConsC (.ref (He.ga K "BadKinds")) tNil))) (tCons (tCB (rIsX K D a d) (tCons (tVar 0) (tConsC (.ref (He.ga K "BadOrder")) tNil))) (tCons (tCB (rIsX K D a d) (tCons (tVar 0) (tConsC (.ref (He.ga K "BadRows")) tNil))) (tCons (tCB (rIsX K D a d) (tCons (tVar 0) (tConsC (.ref (He.ga K "BadRuns")) tNil))) tNil))))) (gName 1))
  (tSeq (tAsg (tOp rCat (tVar 1) (tLst (tCons (tCB (rIsX K D a d) (tCons (tVar 0) (tConsC (.ref (He.ga K "BadRoom")) tNil))) (tCons (tCB (rIsX K D a d) (tCons (tVar 0) (tConsC (.ref (He.ga K "BadLengths")) tNil))) (tCons (tCB (rIsX K D a d) (tCons (tVar 0) (tConsC (.ref (He.ga K "BadPlan")) tNil))) (tCons (tCB (rIsX K D a d) (tCons (tVar 0) (tConsC (.ref (He.ga K "BadPaper")) tNil))) tNil)))))) (gName 1))
   (tSeq (tAsg (tOp rCat (tVar 1) (tLst (tCons (tCB (rIsX K D a d) (tCons (tVar 0) (tConsC (.ref (He.ga K "BadCount")) tNil))) (tCons (tCB (rIsX K D a d) (tCons (tVar 0) (tConsC (.ref (He.ga K "BadBlock")) tNil))) (tCons (tCB (rIsX K D a d) (tCons (tVar 0) (tConsC (.ref (He.ga K "Stopped")) tNil))) (tCons (tCB (rIsX K D a d) (tCons (tVar 0) (tConsC (.ref (He.ga K "Shut")) tNil))) tNil)))))) (gName 1))
    (tSeq (tAsg (tOp rCat (tVar 1) (tLst (tCons (tCB (rIsX K D a d) (tCons (tVar 0) (tConsC (.ref (He.ga K "NotYet")) tNil))) (tCons (tCB (rIsX K D a d) (tCons (tVar 0) (tConsC (.ref (He.ga K "Empty")) tNil))) (tCons (tCB (rIsX K D a d) (tCons (tVar 0) (tConsC (.ref (He.ga K "BadText")) tNil))) tNil))))) (gName 1))
     (tSeq (tAsg (tLst (tConsC (.str "BadKinds") (tConsC (.str "BadOrder") (tConsC (.str "BadRows") (tConsC (.str "BadRuns") (tConsC (.str "BadRoom") (tConsC (.str "BadLengths") (tConsC (.str "BadPlan") (tConsC (.str "BadPaper") (tConsC (.str "BadCount") tNil)))))))))) (gName 2))
      (tSeq (tAsg (tOp rCat (tVar 2) (tLst (tConsC (.str "BadBlock") (tConsC (.str "Stopped") (tConsC (.str "Shut") (tConsC (.str "NotYet") (tConsC (.str "Empty") (tConsC (.str "BadText") tNil)))))))) (gName 2))
       (tRet (tIf (tAnd (tTest (tOpC rEq (tBM K "list" (xCount K) (tVar 1) (tConsC (.bl true) tNil)) (.int 1))) (tB (tCB (rIsX K D a d) (tCons (tVar 0) (tConsC (.ty "ValueError") tNil))))) (tOp (rIxL K) (tVar 2) (tBM K "list" (rIndex K) (tVar 1) (tConsC (.bl true) tNil))) (tC (.str ""))))))))))
theorem DictOk.same {d : Option Addr} {H H' : Hp} (h : DictOk d H) (s : Same H H') : DictOk d H' := fun dd e => let ⟨fs, q⟩ := h dd e; ⟨fs, s _ _ q⟩
def truths (x : Str) : List V := errNames.map fun y => V.bl (decide (x = y))
theorem names_nd : errNames.Nodup := by decide +kernel
theorem truths_flat (x : Str) : (truths x).all flatV = true := by
  unfold truths
  rw [List.all_map]
  exact List.all_eq_true.mpr fun _ _ => rfl
theorem eqV_t (b : Bool) : eqV (.bl b) (.bl true) = b := by cases b <;> rfl
theorem truths_one {x : Str} : ∀ {l : List Str}, x ∈ l → l.Nodup → (l.map fun y => V.bl (decide (x = y))).countP (fun z => eqV z (.bl true)) = 1
  | y :: l, h, nd => by
    rw [List.nodup_cons] at nd
    rw [List.map_cons, List.countP_cons, eqV_t]
    by_cases e : x = y
    · have z : (l.map fun y => V.bl (decide (x = y))).countP (fun z => eqV z (.bl true)) = 0 := by
        rw [List.countP_eq_zero]
        intro v hv
        obtain ⟨u, hu, rfl⟩ := List.mem_map.mp hv
        rw [eqV_t, decide_eq_true_eq]
        intro q
        exact nd.1 (by rw [← e, q]; exact hu)
      rw [z, decide_eq_true e]
      rfl
    · rw [truths_one ((List.mem_cons.mp h).resolve_left e) nd.2, decide_eq_false e]
      rfl
theorem does_law_class {K : PySem.W.Frag} {x : Str} {a : Addr} {d : Option Addr} {H : Hp} {Q : VK} (E : ErrIs K x) (dk : DictOk d H) (k : ∀ H', Same H H' → Q (.str x) H') : t_law_class K (He.ga K x) a d { nx := fun _ H' => Q .non H', rt := Q } (start N_law_class [.ref a]) H := by
  refine ⟨_, rfl, _, .ref (He.ga K "BadKinds"), _, rfl, fun _ h => h, E.k _ (by decide +kernel), dk, _, rfl, _, .ref (He.ga K "BadOrder"), _, rfl, fun _ h => h, E.k _ (by decide +kernel), dk, _, rfl, _, .ref (He.ga K "BadRows"), _, rfl, fun _ h => h, E.k _ (by decide +kernel), dk, _, rfl, _, .ref (He.ga K "BadRuns"), _, rfl, fun _ h => h, E.k _ (by decide +kernel), dk, szle (by show 4 ≤ 100000; decide), fun l1 h1 => ?_⟩
  generalize gX : upd _ l1 _ = H1
  have s1 := newS h1 gX
  have e1 := newE gX
  clear gX
  have s01 : Same H H1 := s1
  refine ⟨_, rfl, _, rfl, _, .ref (He.ga K "BadRoom"), _, rfl, fun _ h => h, E.k _ (by decide +kernel), (dk.same s01), _, rfl, _, .ref (He.ga K "BadLengths"), _, rfl, fun _ h => h, E.k _ (by decide +kernel), (dk.same s01), _, rfl, _, .ref (He.ga K "BadPlan"), _, rfl, fun _ h => h, E.k _ (by decide +kernel), (dk.same s01), _, rfl, _, .ref (He.ga K "BadPaper"), _, rfl, fun _ h => h, E.k _ (by decide +kernel), (dk.same s01), szle (by show 4 ≤ 100000; decide), fun l2 h2 => ?_⟩
  generalize gX : upd _ l2 _ = H2
  have s2 := newS h2 gX
  have e2 := newE gX
  clear gX
  refine ⟨l1, l2, [V.bl (decide (x = "BadKinds")), V.bl (decide (x = "BadOrder")), V.bl (decide (x = "BadRows")), V.bl (decide (x = "BadRuns"))], [V.bl (decide (x = "BadRoom")), V.bl (decide (x = "BadLengths")), V.bl (decide (x = "BadPlan")), V.bl (decide (x = "BadPaper"))], rfl, rfl, s2 _ _ e1, e2, szle (by show 4 + 4 ≤ 100000; decide), fun l3 h3 => ?_⟩
  generalize gX : upd _ l3 _ = H3
  have s3 := newS h3 gX
  have e3 := newE gX
  clear gX
  have s03 : Same H H3 := (s01.trans s2).trans s3
  refine ⟨_, rfl, _, rfl, _, .ref (He.ga K "BadCount"), _, rfl, fun _ h => h, E.k _ (by decide +kernel), (dk.same s03), _, rfl, _, .ref (He.ga K "BadBlock"), _, rfl, fun _ h => h, E.k _ (by decide +kernel), (dk.same s03), _, rfl, _, .ref (He.ga K "Stopped"), _, rfl, fun _ h => h, E.k _ (by decide +kernel), (dk.same s03), _, rfl, _, .ref (He.ga K "Shut"), _, rfl, fun _ h => h, E.k _ (by decide +kernel), (dk.same s03), szle (by show 4 ≤ 100000; decide), fun l4 h4 => ?_⟩
  generalize gX : upd _ l4 _ = H4
  have s4 := newS h4 gX
  have e4 := newE gX
  clear gX
  refine ⟨l3, l4, [V.bl (decide (x = "BadKinds")), V.bl (decide (x = "BadOrder")), V.bl (decide (x = "BadRows")), V.bl (decide (x = "BadRuns")), V.bl (decide (x = "BadRoom")), V.bl (decide (x = "BadLengths")), V.bl (decide (x = "BadPlan")), V.bl (decide (x = "BadPaper"))], [V.bl (decide (x = "BadCount")), V.bl (decide (x = "BadBlock")), V.bl (decide (x = "Stopped")), V.bl (decide (x = "Shut"))], rfl, rfl, s4 _ _ e3, e4, szle (by show 8 + 4 ≤ 100000; decide), fun l5 h5 => ?_⟩
  generalize gX : upd _ l5 _ = H5
  have s5 := newS h5 gX
  have e5 := newE gX
  clear gX
  have s05 : Same H H5 := (s03.trans s4).trans s5
  refine ⟨_, rfl, _, rfl, _, .ref (He.ga K "NotYet"), _, rfl, fun _ h => h, E.k _ (by decide +kernel), (dk.same s05), _, rfl, _, .ref (He.ga K "Empty"), _, rfl, fun _ h => h, E.k _ (by decide +kernel), (dk.same s05), _, rfl, _, .ref (He.ga K "BadText"), _, rfl, fun _ h => h, E.k _ (by decide +kernel), (dk.same s05), szle (by show 3 ≤ 100000; decide), fun l6 h6 => ?_⟩
  generalize gX : upd _ l6 _ = H6
  have s6 := newS h6 gX
  have e6 := newE gX
  clear gX
  refine ⟨l5, l6, [V.bl (decide (x = "BadKinds")), V.bl (decide (x = "BadOrder")), V.bl (decide (x = "BadRows")), V.bl (decide (x = "BadRuns")), V.bl (decide (x = "BadRoom")), V.bl (decide (x = "BadLengths")), V.bl (decide (x = "BadPlan")), V.bl (decide (x = "BadPaper")), V.bl (decide (x = "BadCount")), V.bl (decide (x = "BadBlock")), V.bl (decide (x = "Stopped")), V.bl (decide (x = "Shut"))], [V.bl (decide (x = "NotYet")), V.bl (decide (x = "Empty")), V.bl (decide (x = "BadText"))], rfl, rfl, s6 _ _ e5, e6, szle (by show 12 + 3 ≤ 100000; decide), fun l7 h7 => ?_⟩
  generalize gX : upd _ l7 _ = H7
  have s7 := newS h7 gX
  have e7 := newE gX
  clear gX
  have s07 : Same H H7 := (s05.trans s6).trans s7
  refine ⟨szle (by show 9 ≤ 100000; decide), fun w1 g1 => ?_⟩
  generalize gX : upd _ w1 _ = G1
  have t1 := newS g1 gX
  have f1 := newE gX
  clear gX
  refine ⟨_, rfl, szle (by show 6 ≤ 100000; decide), fun w2 g2 => ?_⟩
  generalize gX : upd _ w2 _ = G2
  have t2 := newS g2 gX
  have f2 := newE gX
  clear gX
  refine ⟨w1, w2, _, _, rfl, rfl, t2 _ _ f1, f2, szle (by show 9 + 6 ≤ 100000; decide), fun w3 g3 => ?_⟩
  generalize gX : upd _ w3 _ = G3
  have t3 := newS g3 gX
  have f3 := newE gX
  clear gX
  have t0 : Same H7 G3 := (t1.trans t2).trans t3
  have eK : G3 l7 = some (.lst (truths x)) := t0 _ _ e7
  have eW : G3 w3 = some (.lst (errNames.map V.str)) := f3
  have sK : Same H G3 := s07.trans t0
  refine ⟨_, rfl, .inl ⟨rfl, _, SqL.of eK⟩, l7, truths x, .bl true, rfl, rfl, SqL.of eK, rfl, truths_flat x, rfl, _, rfl, ?_⟩
  rw [show (truths x).countP (fun z => eqV z (.bl true)) = 1 from truths_one E.mem names_nd]
  refine ⟨_, rfl, _, .type "ValueError", _, rfl, fun _ h => h, E.v, dk.same sK, ?_⟩
  obtain ⟨j, hj, ej⟩ := List.getElem_of_mem E.mem
  have hj2 : errNames[j]? = some x := by rw [List.getElem?_eq_getElem hj, ej]
  refine ⟨_, rfl, _, rfl, _, rfl, .inl ⟨rfl, _, SqL.of eK⟩, l7, truths x, .bl true, j, .bl true, rfl, rfl, SqL.of eK, rfl, truths_flat x, ?_, rfl, fun m z hm hz => ?_, ixL eW rfl (by rw [List.getElem?_map, hj2]; rfl) (k _ sK)⟩
  · unfold truths
    rw [List.getElem?_map, hj2]
    show some (V.bl (decide (x = x))) = _
    rw [decide_eq_true rfl]
  · unfold truths at hz
    rw [List.getElem?_map] at hz
    cases q : errNames[m]? with
    | none => rw [q] at hz; cases hz
    | some y =>
      rw [q] at hz
      cases hz
      rw [eqV_t]
      refine decide_eq_false fun z => ?_
      subst z
      have := (List.getElem?_inj (List.getElem?_eq_some_iff.mp q).1 names_nd).mp (q.trans hj2.symm)
      omega
abbrev N_law_told : List Str := ["_law_work", "_law_e", "_law_word"]
abbrev P_law_told : List Str := ["_law_work"]
def t_law_told (K : PySem.W.Frag) (a : Addr) (cls : Value) (d : Option Addr) : TS := (tSeq (tAsg (tWarm K 1 a cls d N_law_class (t_law_class K)) (gName 2))
  (tSeq (tIfS (tTest (tOpC rEq (tVar 2) (.str "BadRuns"))) (tRet (tTup (tCons (tVar 2) (tCons (tErrF K 1 a cls d "number") tNil)))) tNext)
   (tRet (tTup (tCons (tVar 2) (tCons (tIf (tTest (tOp (rIn K false) (tVar 2) (tTup (tConsC (.str "BadRows") (tConsC (.str "BadText") tNil))))) (tErrF K 1 a cls d "place") (tC (.int 0))) tNil))))))
theorem set1 {σ : L2.St} {v : Option V} (h : σ.length = 3) : ∃ x0 x2, σ.set 1 v = [x0, v, x2] := by
  match σ, h with
  | [x0, _, x2], _ => exact ⟨x0, x2, rfl⟩
theorem ErrNo.ok {K : PySem.W.Frag} {x : Str} {d : Option Addr} {H : Hp} {v : V} (h : ErrNo K x d H v) : DictOk d H := by
  unfold ErrNo at h
  intro dd e
  split at h
  · obtain ⟨d2, fs, _, _, e2, q, _⟩ := h
    rw [e2] at e
    cases e
    exact ⟨fs, q⟩
  · rw [h.1] at e
    cases e
theorem ErrNo.same {K : PySem.W.Frag} {x : Str} {d : Option Addr} {H H' : Hp} {v : V} (h : ErrNo K x d H v) (s : Same H H') : ErrNo K x d H' v := by
  unfold ErrNo at h ⊢
  split at h
  · rename_i c
    rw [if_pos c]
    obtain ⟨dd, fs, a, b, e, q, l⟩ := h
    exact ⟨dd, fs, a, b, e, s _ _ q, l⟩
  · rename_i c
    rw [if_neg c]
    exact h
theorem two_words {x : Str} : inV (.str x) [.str "BadRows", .str "BadText"] = decide (x = "BadRows" ∨ x = "BadText") := by
  unfold inV
  rw [List.any_cons, List.any_cons, List.any_nil, Bool.or_false]
  show (("BadRows" : Str) == x || ("BadText" : Str) == x) = _
  by_cases c : x = "BadRows"
  · subst c
    simp
  · by_cases c2 : x = "BadText"
    · subst c2
      simp
    · simp [c, c2, Ne.symm c, Ne.symm c2, beq_eq_false_iff_ne.mpr (Ne.symm c), beq_eq_false_iff_ne.mpr (Ne.symm c2)]
theorem pure_law_told {K : PySem.W.Frag} : ∀ (a : Addr) (cls : Value) (d : Option Addr) (H : Hp) (Q : VK) (D : Ends) (σ : L2.St), rErr K cls d H Q → D.rt = Q → σ.length = N_law_told.length → t_law_told K a cls d D (σ.set 1 (some (.ref a))) H := by
  intro a cls d H Q D σ h eD hl
  obtain ⟨x, v, rfl, E, no, k⟩ := h
  obtain ⟨x0, x2, eσ⟩ := set1 (v := some (.ref a)) hl
  rw [eσ]
  refine ⟨rfl, He.ga K x, rfl, E.c, does_law_class E no.ok fun H1 s1 => ?_⟩
  have no1 := no.same s1
  refine ⟨_, rfl, rfl, _, rfl, ?_⟩
  unfold ErrNo at no1
  by_cases c1 : x = "BadRuns"
  · rw [if_pos (.inl c1), if_pos c1] at no1
    obtain ⟨dd, fs, hx, hn, ed, eH, l⟩ := no1
    rw [decide_eq_true (show V.str x = V.str "BadRuns" by rw [c1])]
    refine ⟨_, rfl, rfl, _, dd, fs, v, rfl, hx, hn, ed, eH, l, szle (by show 2 ≤ 100000; decide), fun q hq => ?_⟩
    generalize gX : upd _ q _ = H2
    have s2 := newS hq gX
    have e2 := newE gX
    clear gX
    rw [eD]
    exact k q H2 (s1.free hq) (s1.trans s2) e2
  rw [decide_eq_false (show ¬ V.str x = V.str "BadRuns" from fun z => c1 (V.str.inj z))]
  refine ⟨_, rfl, _, rfl, szle (by show 2 ≤ 100000; decide), fun q hq => ?_⟩
  have q0 := s1.free hq
  generalize gX : upd _ q _ = H2
  have s2 := newS hq gX
  have e2 := newE gX
  clear gX
  refine ⟨q, _, rfl, .inr (SqT.of e2), rfl, rfl, _, rfl, ?_⟩
  rw [if_neg (by decide), two_words]
  by_cases c2 : x = "BadRows" ∨ x = "BadText"
  · rw [if_pos (.inr c2), if_neg c1] at no1
    obtain ⟨dd, fs, hx, hn, ed, eH, l⟩ := no1
    rw [decide_eq_true c2]
    refine ⟨rfl, _, dd, fs, v, rfl, hx, hn, ed, s2 _ _ eH, l, szle (by show 2 ≤ 100000; decide), fun r hr => ?_⟩
    have r0 := (s1.trans s2).free hr
    generalize gX : upd _ r _ = H3
    have s3 := newS hr gX
    have e3 := newE gX
    clear gX
    rw [eD]
    exact k r H3 r0 ((s1.trans s2).trans s3) e3
  · rw [if_neg (fun z => z.elim c1 c2)] at no1
    obtain ⟨_, rfl⟩ := no1
    rw [decide_eq_false c2]
    refine ⟨szle (by show 2 ≤ 100000; decide), fun r hr => ?_⟩
    have r0 := (s1.trans s2).free hr
    generalize gX : upd _ r _ = H3
    have s3 := newS hr gX
    have e3 := newE gX
    clear gX
    rw [eD]
    exact k r H3 r0 ((s1.trans s2).trans s3) e3
end Rs

namespace Rs
open PySem PySem.Spec PyProof.Rows L2
open LamX
abbrev N_weight_of : List Str := ["what", "part"]
abbrev P_weight_of : List Str := ["what"]
def spr_weight_of (K : PySem.W.Frag) (d : Nat) : Sp := fun vs H Q E => match vs with
  | [v] => ∃ x : Dt, DtAt H v x ∧ x.depth < d ∧ x.slim ∧ ∀ H', Same H H' → Q (.int (x.weight : Int)) H'
  | _ => False
abbrev sp_weight_of (K : PySem.W.Frag) : Sp := spr_weight_of K 12
theorem no_weight_of (K : PySem.W.Frag) : ∀ vs H Q E, ¬ spr_weight_of K 0 vs H Q E := fun vs H Q E h => by
  unfold spr_weight_of at h
  match vs, h with
  | [_], ⟨_, _, h1, _⟩ => omega
theorem len_weight_of (K : PySem.W.Frag) : ∀ d vs H Q E, spr_weight_of K d vs H Q E → vs.length = 1 := fun d vs H Q E h => by
  unfold spr_weight_of at h
  match vs, h with
  | [_], _ => rfl
def t_weight_of (K : PySem.W.Frag) (sp : Sp) (E : XK) : TS := (tSeq (tIfS (tB (tIsi K "tuple" (tVar 0))) (tRet (tCB1 (rSum K) (tLc (iTup K (tVar 0)) (gName 1) tYes (tCall sp [] E0 (tCons (tVar 1) tNil)) [1]))) tNext)
  (tRet (tC (.int 1))))
theorem nat_sum_int : ∀ xs : List Nat, (xs.map fun (n : Nat) => (n : Int)).sum = ((xs.sum : Nat) : Int)
  | [] => rfl
  | x :: xs => by rw [List.map_cons, List.sum_cons, List.sum_cons, nat_sum_int xs]; omega
theorem pure_weight_of {K : PySem.W.Frag} (d : Nat) : ∀ vs H Q E, spr_weight_of K (d + 1) vs H Q E → t_weight_of K (spr_weight_of K d) E { nx := fun _ H' => Q .non H', rt := Q } (start N_weight_of vs) H := by
  intro vs H Q E hyp
  unfold spr_weight_of at hyp
  match vs, hyp with
  | [v], hyp =>
    obtain ⟨x, hx, hd, hs, k⟩ := hyp
    cases x with
    | int n =>
      cases hx
      exact ⟨_, rfl, isi_go (t := "int") (b := false) (.base (.int n)) (by decide +kernel) ⟨_, rfl, k H (Same.refl H)⟩⟩
    | str n =>
      cases hx
      exact ⟨_, rfl, isi_go (t := "str") (b := false) (.base (.str n)) (by decide +kernel) ⟨_, rfl, k H (Same.refl H)⟩⟩
    | bool n =>
      cases hx
      exact ⟨_, rfl, isi_go (t := "bool") (b := false) (.base (.bl n)) (by decide +kernel) ⟨_, rfl, k H (Same.refl H)⟩⟩
    | non =>
      cases hx
      exact ⟨_, rfl, isi_go (t := "NoneType") (b := false) (.base .non) (by decide +kernel) ⟨_, rfl, k H (Same.refl H)⟩⟩
    | tup ds =>
      obtain ⟨a, tv, rfl, et, pt⟩ := DtAt.untup hx
      have lt := pt.length
      rw [Dt.depth] at hd
      rw [Dt.slim] at hs
      have sl := Dt.slimL_of hs.2
      refine ⟨_, rfl, isi_go (t := "tuple") (b := true) (tyT (SqT.of et)) (by decide +kernel) ⟨_, rfl, ?_⟩⟩
      refine ⟨_, rfl, a, rfl, ⟨_, SqT.of et⟩, fun D hD => ?_⟩
      refine lcm_tup (S := IntAt) (fun q : Dt => some (q.weight : Int)) IntAt.st et pt hD ?_ (by omega) ?_
      · intro j v x H' hx hj r s skip put
        have xm := List.mem_of_getElem? hx
        have dl := Dt.depthL_le xm
        exact ⟨rfl, lc_yes ⟨_, rfl, x, DtAt.st _ _ _ _ (TupLe.same s) r, by omega, sl x xm, fun H2 s2 => put H2 _ _ s2 rfl rfl⟩⟩
      · intro H2 L s
        rw [fm_some] at L
        refine ⟨D, _, rfl, SqL.of (Lst.ints.mp L), ?_⟩
        have e : (ds.map fun q => (q.weight : Int)).sum = (((Dt.tup ds).weight : Nat) : Int) := by
          rw [Dt.weight, Dt.weightL_map, ← nat_sum_int, List.map_map]
          rfl
        rw [e]
        exact k H2 s
abbrev N_Disk_need_block : List Str := ["self", "block"]
abbrev P_Disk_need_block : List Str := ["self", "block"]
def sp_Disk_need_block (K : PySem.W.Frag) : Sp := fun vs H Q E => match vs with
  | [s, b] => ∃ n : Int, b = .int n ∧ (0 ≤ n → n < 600 → Q .non H) ∧ (¬ (0 ≤ n ∧ n < 600) → E (.ref (He.ga K "BadBlock")) none H)
  | _ => False
def t_Disk_need_block (K : PySem.W.Frag) (E : XK) : TS := (tIfS (tNot (tTest (tChain xLe xLt (tC (.int 0)) (tVar 1) (tC (.int 600))))) (tRaise E (.ref (He.ga K "BadBlock"))) tNext)
theorem pure_Disk_need_block {K : PySem.W.Frag} : ∀ vs H Q E, sp_Disk_need_block K vs H Q E → t_Disk_need_block K E { nx := fun _ H' => Q .non H', rt := Q } (start N_Disk_need_block vs) H := by
  intro vs H Q E h
  match vs, h with
  | [s, b], h =>
    obtain ⟨n, rfl, k, e⟩ := h
    refine ⟨_, rfl, _, _, rfl, rfl, _, rfl, ?_⟩
    by_cases c : (0 : Int) ≤ n
    · rw [decide_eq_true c]
      refine ⟨_, _, rfl, rfl, _, rfl, ?_⟩
      by_cases c2 : n < 600
      · rw [decide_eq_true c2]
        exact k c c2
      · rw [decide_eq_false c2]
        exact e fun z => c2 z.2
    · rw [decide_eq_false c, if_neg Bool.false_ne_true]
      exact ⟨_, rfl, e fun z => c z.1⟩
abbrev N_Disk_stop : List Str := ["self", "picks", "block", "what", "stays"]
abbrev P_Disk_stop : List Str := ["self", "picks"]
def sp_Disk_stop (K : PySem.W.Frag) : Sp := fun vs H Q E => match vs with
  | [s, pv] => ∃ p F D lp ps, s = .ref p ∧ DiskAt K H p F D ∧ pv = .ref lp ∧ H lp = some (.lst (ps.map V.bl)) ∧ ∀ H' F', DiskAt K H' p F' (D.fall ps) → But F H H' → Own F F' H → Q .non H'
  | _ => False
def t_Disk_stop (K : PySem.W.Frag) (E : XK) : TS := (tSeq (tFor (iZip K (tCons (tFl K (tVar 0) "waiting") (tCons (tCB1 (xList K) (tVar 1)) tNil))) (gTup K 2 (gCons (gTup K 2 (gCons (gName 2) (gCons (gName 3) gNil))) (gCons (gName 4) gNil))) 
    (tIfS (tB (tVar 4)) (tAsg (tVar 3) (gSub (tFl K (tVar 0) "settled") (tVar 2) rSetL)) tNext))
  (tSeq (sFl K (tVar 0) (tLst tNil) "waiting")
   (sFl K (tVar 0) (tC (.bl true)) "is_down")))
theorem setS_snoc (s : List Dt) (w : List (Nat × Dt)) (q : Nat × Dt) : setS s (w ++ [q]) = (setS s w).set q.1 q.2 := by
  unfold setS
  rw [List.foldl_append]
  rfl
theorem fallS_take : ∀ (w : List (Nat × Dt)) (s : List Dt) (ps : List Bool) (i : Nat) (q : Nat × Dt) (b : Bool), w[i]? = some q → ps[i]? = some b → fallS s (w.take (i + 1)) (ps.take (i + 1)) = if b = true then (fallS s (w.take i) (ps.take i)).set q.1 q.2 else fallS s (w.take i) (ps.take i)
  | [], s, ps, i, q, b, h, _ => by simp at h
  | _ :: _, s, [], i, q, b, _, h => by simp at h
  | x :: w, s, y :: ps, 0, q, b, h1, h2 => by
    have e1 : x = q := by simpa using h1
    have e2 : y = b := by simpa using h2
    subst e1 e2
    show fallS (if y = true then s.set x.1 x.2 else s) [] [] = if y = true then s.set x.1 x.2 else s
    cases y <;> rfl
  | x :: w, s, y :: ps, i + 1, q, b, h1, h2 => by
    have ih := fallS_take w (if y = true then s.set x.1 x.2 else s) ps i q b (by simpa using h1) (by simpa using h2)
    exact ih
theorem fallS_min (w : List (Nat × Dt)) : ∀ (s : List Dt) (ps : List Bool), fallS s (w.take (min w.length ps.length)) (ps.take (min w.length ps.length)) = fallS s w ps := by
  induction w with
  | nil => intro s ps; cases ps <;> simp [fallS]
  | cons x w ih =>
    intro s ps
    cases ps with
    | nil => simp [fallS]
    | cons y ps =>
      have e : min (x :: w).length (y :: ps).length = min w.length ps.length + 1 := by
        rw [List.length_cons, List.length_cons]
        omega
      rw [e]
      exact ih (if y = true then s.set x.1 x.2 else s) ps
theorem pure_Disk_stop {K : PySem.W.Frag} (T : TxtDisk K) : ∀ vs H Q E, sp_Disk_stop K vs H Q E → t_Disk_stop K E { nx := fun _ H' => Q .non H', rt := Q } (start N_Disk_stop vs) H := by
  intro vs H Q E h
  match vs, h with
  | [s, pv], h =>
    obtain ⟨p, F, D, lpk, ps, rfl, A, rfl, epk, k⟩ := h
    obtain ⟨ls, lw, lp, rfl, ob, L1, ⟨wv, ew, pw⟩, e3, n1, n2, n3⟩ := A.ex
    obtain ⟨dx, eo⟩ := id ob
    have lwl := pw.length
    have aw := A.at_
    have nps : p ≠ ls := L1.ne eo
    have npw : p ≠ lw := ne_of eo ew (by intro z; cases z)
    refine ⟨_, rfl, g_Disk_waiting T ob ⟨_, rfl, lpk, _, rfl, .inl (SqL.of epk), fun c hc => ?_⟩⟩
    have s1 : Same H (upd H c (.lst (ps.map V.bl))) := Rs.Same.new hc
    have ec : upd H c (.lst (ps.map V.bl)) c = some (.lst (ps.map V.bl)) := upd_same
    have ncs : c ≠ ls := let ⟨_, e, _⟩ := L1; (ne_of_none e hc).symm
    generalize upd H c (.lst (ps.map V.bl)) = H1 at s1 ec ⊢
    refine ⟨lw, c, wv, _, rfl, SqL.of (s1 _ _ ew), SqL.of ec, ?_⟩
    refine for_it (walk_zip (K := K) (a := lw) (b := c) (xs := wv) (ys := ps.map V.bl) (n := min D.waiting.length ps.length) (by rw [List.length_map, lwl])) (fun i σ H' => ∃ x2 x3 x4, σ = [some (.ref p), some (.ref lpk), x2, x3, x4] ∧ But [ls] H H' ∧ H' c = some (.lst (ps.map V.bl)) ∧ Lst DtAt H' ls (fallS D.settled (D.waiting.take i) (ps.take i)))
      ⟨none, none, none, rfl, But.same s1, ec, by rw [List.take_zero]; exact L1.same DtAt.st s1⟩ ?_ ?_ ?_
    · rintro i σ H' _ ⟨_, _, _, _, kk, ec', _⟩
      exact ⟨SqL.of (kk _ _ ew (ne1 n1.symm)), SqL.of ec'⟩
    · rintro i x σ H2 H3 hi ⟨x2, x3, x4, rfl, kk, ec2, Ls⟩ ⟨Tt, x1, y1, rfl, hT, rfl, hx1, hy1⟩
      obtain ⟨⟨b, d⟩, hq, w, ⟨a, rfl, ea⟩, hd⟩ := P2.get pw hx1
      have hy1 : (ps.map V.bl)[i]? = some y1 := hy1
      rw [List.getElem?_map] at hy1
      obtain ⟨bb, hbb, rfl⟩ := Option.map_eq_some_iff.mp hy1
      have bl := aw _ (List.mem_of_getElem? hq)
      dsimp only at bl ea hd
      have s3 : Same H2 (upd H2 Tt (.tup [.ref a, .bl bb])) := Rs.Same.new hT
      have eT : upd H2 Tt (.tup [.ref a, .bl bb]) Tt = some _ := upd_same
      generalize upd H2 Tt (.tup [.ref a, .bl bb]) = H3 at s3 eT ⊢
      have t2 : TupLe H H2 := kk.tupOf fun b hb => by
        rw [List.mem_singleton] at hb
        subst hb
        obtain ⟨vs, e, _⟩ := L1
        exact nt_lst e
      have kk3 := kk.trans (But.same s3)
      have ea3 := s3 _ _ (t2 _ _ ea)
      refine ⟨Tt, _, rfl, SqT.of eT, rfl, _, _, rfl, ⟨a, _, rfl, SqT.of ea3, rfl, _, _, rfl, _, _, rfl, rfl, ?_⟩⟩
      have ob3 : DiskOb K H3 p (.ref ls) (.ref lw) (leftV D.left) (.ref lp) (.bl D.down) := ob.keep fun o e => kk3 _ _ e (ne1 nps)
      have tk := fallS_take D.waiting D.settled ps i (b, d) bb hq hbb
      have ec3 := s3 _ _ ec2
      have L3 := Ls.same DtAt.st s3
      cases bb with
      | false =>
        rw [if_neg (by decide)] at tk
        refine ⟨_, _, rfl, rfl, _, rfl, _, rfl, _, _, _, rfl, kk3, ec3, ?_⟩
        rw [tk]
        exact L3
      | true =>
        rw [if_pos rfl] at tk
        obtain ⟨lv, el, pl⟩ := L3
        have fl := fallS_len (D.waiting.take i) D.settled (ps.take i)
        have lvl := pl.length
        have slen := A.len
        refine ⟨_, _, rfl, rfl, _, rfl, _, rfl, _, rfl, _, rfl, g_Disk_settled T ob3 ⟨_, rfl, ls, lv, _, b, rfl, rfl, el, ixN_nat (by omega), ?_⟩⟩
        have t4 : TupLe H3 (upd H3 ls (.lst (lv.set b w))) := (TupLe.refl _).list el
        refine ⟨_, _, _, rfl, kk3.put (by simp), up ec3 ncs, ?_⟩
        rw [tk]
        exact ⟨_, upd_same, P2.set (DtAt.st _ _ _ _ ((t2.trans (TupLe.same s3)).trans t4) hd) b (Paired.tl DtAt.st t4 pl)⟩
    · rintro σ H2 ⟨x2, x3, x4, rfl, kk, ec2, Ls⟩
      rw [fallS_min] at Ls
      have t2 : TupLe H H2 := kk.tupOf fun b hb => by
        rw [List.mem_singleton] at hb
        subst hb
        obtain ⟨vs, e, _⟩ := L1
        exact nt_lst e
      have ob2 : DiskOb K H2 p (.ref ls) (.ref lw) (leftV D.left) (.ref lp) (.bl D.down) := ob.keep fun o e => kk _ _ e (ne1 nps)
      refine ⟨sz0, fun q hq => ⟨_, rfl, ?_⟩⟩
      have s3 : Same H2 (upd H2 q (.lst [])) := Rs.Same.new hq
      have eq : upd H2 q (.lst []) q = some (.lst []) := upd_same
      obtain ⟨dxa, eo2⟩ := id ob2
      obtain ⟨lva, els2, _⟩ := id Ls
      have qp : p ≠ q := ne_of_none eo2 hq
      have qls : ls ≠ q := ne_of_none els2 hq
      have elp2 := kk _ _ e3 (ne1 n2.symm)
      have qlp : lp ≠ q := ne_of_none elp2 hq
      have q0 : H q = none := none_of_but kk hq (ne1 qls.symm)
      generalize upd H2 q (.lst []) = H3 at s3 eq ⊢
      refine s_Disk_waiting T (ob2.keep fun o e => s3 _ _ e) fun dx3 h3 => ?_
      refine ⟨_, rfl, s_Disk_is_down T ⟨dx3, upd_same⟩ fun dx4 h4 => ?_⟩
      have k34 : ∀ u1 u2 : HO, But [p] H3 (upd (upd H3 p u1) p u2) := fun u1 u2 => ((But.refl _ H3).put (by simp)).put (by simp)
      have t34 : ∀ u1 u2 : HO, TupLe H3 (upd (upd H3 p u1) p u2) := fun u1 u2 => (k34 u1 u2).tupOf fun b hb => by rw [List.mem_singleton] at hb; subst hb; exact nt_ins h3
      refine k _ [p, ls, q, lp] ⟨⟨ls, q, lp, rfl, ⟨dx4, upd_same⟩, (Ls.same DtAt.st s3).keep DtAt.st (t34 _ _) fun o e => k34 _ _ _ _ e (ne1 nps.symm), ⟨[], k34 _ _ _ _ eq (ne1 qp.symm), .nil⟩, k34 _ _ _ _ (s3 _ _ elp2) (ne1 ?_), qls, n2, qlp.symm⟩, ?_, ?_, ?_⟩ ?_ ?_
      · exact (ne_of eo e3 (by intro z; cases z)).symm
      · rw [← A.len]
        exact fallS_len _ _ _
      · exact Nat.zero_le _
      · intro q hq
        simp [DiskM.fall] at hq
      · exact ((kk.wide (by simp)).trans (But.same s3)).trans ((k34 _ _).wide (by simp))
      · intro x hx
        simp only [List.mem_cons, List.not_mem_nil, or_false] at hx ⊢
        rcases hx with rfl | rfl | rfl | rfl
        · exact .inl (.inl rfl)
        · exact .inl (.inr (.inl rfl))
        · exact .inr q0
        · exact .inl (.inr (.inr (.inr rfl)))
abbrev N_Disk_deed : List Str := ["self"]
abbrev P_Disk_deed : List Str := ["self"]
def sp_Disk_deed (K : PySem.W.Frag) : Sp := fun vs H Q E => match vs with
  | [s] => ∃ p F D, s = .ref p ∧ DiskAt K H p F D ∧ Out K H p F D.deed (fun H' => Q .non H') (fun H' => E (.ref (He.ga K "Stopped")) none H')
  | _ => False
def t_Disk_deed (K : PySem.W.Frag) (E : XK) : TS := (tSeq (tIfS (tAnd (tTest (tOpC rEq (tFl K (tVar 0) "left") (.int 0))) (tNot (tB (tFl K (tVar 0) "is_down")))) (tDrop (tMeth (He.ga K "Disk") "stop" (sp_Disk_stop K) [] E (tVar 0) (tCons (tFl K (tVar 0) "picks") tNil))) tNext)
  (tSeq (tIfS (tB (tFl K (tVar 0) "is_down")) (tRaise E (.ref (He.ga K "Stopped"))) tNext)
   (tIfS (tTest (tOpC rNotN (tFl K (tVar 0) "left") .non)) (sFl K (tVar 0) (tOpC xSub (tFl K (tVar 0) "left") (.int 1)) "left") tNext)))
theorem pure_Disk_deed {K : PySem.W.Frag} (T : TxtDisk K) : ∀ vs H Q E, sp_Disk_deed K vs H Q E → t_Disk_deed K E { nx := fun _ H' => Q .non H', rt := Q } (start N_Disk_deed vs) H := by
  intro vs H Q E h
  match vs, h with
  | [s], h =>
    obtain ⟨p, F, D, rfl, A, k⟩ := h
    obtain ⟨ls, lw, lp, rfl, ob, L1, L2, e3, n1, n2, n3⟩ := id A.ex
    obtain ⟨dx, eo⟩ := id ob
    refine ⟨_, rfl, g_Disk_left T ob ?_⟩
    unfold Out DiskM.deed at k
    cases hd : D.down with
    | true =>
      rw [hd] at ob
      rw [hd, if_pos rfl] at k
      have fin : tIfS (tB (tFl K (tVar 0) "is_down")) (tRaise E (.ref (He.ga K "Stopped"))) tNext { nx := (tIfS (tTest (tOpC rNotN (tFl K (tVar 0) "left") .non)) (sFl K (tVar 0) (tOpC xSub (tFl K (tVar 0) "left") (.int 1)) "left") tNext) { nx := fun _ H' => Q .non H', rt := Q }, rt := Q } [some (.ref p)] H := ⟨_, rfl, g_Disk_is_down T ob ⟨_, rfl, k H _ A (But.refl _ _) (Own.refl _ _)⟩⟩
      have rest : ∀ b : Bool, (fun c H1 => if c = true then (tNot (tB (tFl K (tVar 0) "is_down"))) [some (.ref p)] H1 (fun b H1 => if b = true then (tDrop (tMeth (He.ga K "Disk") "stop" (sp_Disk_stop K) [] E (tVar 0) (tCons (tFl K (tVar 0) "picks") tNil))) { nx := (tSeq (tIfS (tB (tFl K (tVar 0) "is_down")) (tRaise E (.ref (He.ga K "Stopped"))) tNext) (tIfS (tTest (tOpC rNotN (tFl K (tVar 0) "left") .non)) (sFl K (tVar 0) (tOpC xSub (tFl K (tVar 0) "left") (.int 1)) "left") tNext)) { nx := fun _ H' => Q .non H', rt := Q }, rt := Q } [some (.ref p)] H1 else (tSeq (tIfS (tB (tFl K (tVar 0) "is_down")) (tRaise E (.ref (He.ga K "Stopped"))) tNext) (tIfS (tTest (tOpC rNotN (tFl K (tVar 0) "left") .non)) (sFl K (tVar 0) (tOpC xSub (tFl K (tVar 0) "left") (.int 1)) "left") tNext)) { nx := fun _ H' => Q .non H', rt := Q } [some (.ref p)] H1) else (tSeq (tIfS (tB (tFl K (tVar 0) "is_down")) (tRaise E (.ref (He.ga K "Stopped"))) tNext) (tIfS (tTest (tOpC rNotN (tFl K (tVar 0) "left") .non)) (sFl K (tVar 0) (tOpC xSub (tFl K (tVar 0) "left") (.int 1)) "left") tNext)) { nx := fun _ H' => Q .non H', rt := Q } [some (.ref p)] H1) b H := fun b => by
        cases b with
        | false => exact fin
        | true => exact ⟨_, rfl, g_Disk_is_down T ob ⟨_, rfl, fin⟩⟩
      cases D.left with
      | none => exact ⟨rfl, _, rfl, rest false⟩
      | some n =>
        refine ⟨rfl, _, rfl, ?_⟩
        exact rest _
    | false =>
      rw [hd] at ob
      rw [hd, if_neg (by decide)] at k
      cases hl : D.left with
      | none =>
        rw [hl] at ob k
        refine ⟨rfl, _, rfl, ?_⟩
        refine ⟨_, rfl, g_Disk_is_down T ob ⟨_, rfl, ?_⟩⟩
        exact ⟨_, rfl, g_Disk_left T ob ⟨rfl, _, rfl, k H _ A (But.refl _ _) (Own.refl _ _)⟩⟩
      | some n =>
        rw [hl] at ob k
        cases n with
        | zero =>
          refine ⟨rfl, _, rfl, ?_⟩
          refine ⟨_, rfl, g_Disk_is_down T ob ⟨_, rfl, ?_⟩⟩
          refine ⟨_, rfl, p, dx, _, rfl, eo, no_Disk_stop, _, rfl, g_Disk_picks T ob ⟨p, _, D, lp, D.picks, rfl, A, rfl, e3, fun H1 F1 A1 k1 o1 => ?_⟩⟩
          obtain ⟨ls', lw', lp', _, ob', _⟩ := id A1.ex
          exact ⟨_, rfl, g_Disk_is_down T ob' ⟨_, rfl, k H1 F1 A1 k1 o1⟩⟩
        | succ n =>
          refine ⟨rfl, _, rfl, ?_⟩
          have e0 : decide (leftV (some (n + 1)) = V.int 0) = false := decide_eq_false (fun z => by injection z with z; omega : ¬ V.int ((n + 1 : Nat) : Int) = V.int 0)
          rw [e0]
          refine ⟨_, rfl, g_Disk_is_down T ob ⟨_, rfl, ?_⟩⟩
          refine ⟨_, rfl, g_Disk_left T ob ⟨rfl, _, rfl, ?_⟩⟩
          refine ⟨_, rfl, g_Disk_left T ob ⟨_, _, rfl, rfl, _, rfl, s_Disk_left T ob fun dx2 h2 => ?_⟩⟩
          have k2 : ∀ u : HO, But [p] H (upd H p u) := fun u => (But.refl _ H).put (by simp)
          have t2 : ∀ u : HO, TupLe H (upd H p u) := fun u => (k2 u).tupOf fun b hb => by rw [List.mem_singleton] at hb; subst hb; exact nt_ins eo
          have nps : p ≠ ls := L1.ne eo
          have npw : p ≠ lw := L2.ne eo
          have npp : p ≠ lp := ne_of eo e3 (by intro z; cases z)
          have e : ((n + 1 : Nat) : Int) - 1 = (n : Int) := by omega
          dsimp only
          rw [e]
          refine k _ _ ⟨⟨ls, lw, lp, rfl, ⟨dx2, ?_⟩, L1.keep DtAt.st (t2 _) fun o e => up e nps.symm, L2.keep WtAt.st (t2 _) fun o e => up e npw.symm, up e3 npp.symm, n1, n2, n3⟩, A.len, A.few, A.at_⟩ ((k2 _).wide (by simp)) (Own.refl _ _)
          rw [upd_same]
          rfl
abbrev N_Disk_write : List Str := ["self", "block", "what"]
abbrev P_Disk_write : List Str := ["self", "block", "what"]
def sp_Disk_write (K : PySem.W.Frag) : Sp := fun vs H Q E => match vs with
  | [s, bv, wv] => ∃ p F D, ∃ (n : Int) (d : Dt), s = .ref p ∧ DiskAt K H p F D ∧ bv = .int n ∧ DtAt H wv d ∧ d.depth < 12 ∧ d.slim ∧ D.waiting.length < 5000 ∧
    (∀ b : Nat, n = (b : Int) → b < 600 → d.weight ≤ 40 → Out K H p F (D.does (.wr b d)) (fun H' => Q .non H') (fun H' => E (.ref (He.ga K "Stopped")) none H')) ∧
    (¬ (0 ≤ n ∧ n < 600 ∧ d.weight ≤ 40) → ∀ H', Same H H' → E (.ref (He.ga K "BadBlock")) none H')
  | _ => False
def t_Disk_write (K : PySem.W.Frag) (E : XK) : TS := (tSeq (tDrop (tMeth (He.ga K "Disk") "need_block" (sp_Disk_need_block K) [] E (tVar 0) (tCons (tVar 1) tNil)))
  (tSeq (tIfS (tTest (tOpC xGt (tCall (sp_weight_of K) [] E (tCons (tVar 2) tNil)) (.int 40))) (tRaise E (.ref (He.ga K "BadBlock"))) tNext)
   (tSeq (tDrop (tMeth (He.ga K "Disk") "deed" (sp_Disk_deed K) [] E (tVar 0) tNil))
    (tDrop (tBM K "list" rAppend (tFl K (tVar 0) "waiting") (tCons (tTup (tCons (tVar 1) (tCons (tVar 2) tNil))) tNil))))))
theorem deed_waiting (D : DiskM) : D.deed.2 = false → D.deed.1.waiting = D.waiting := by
  unfold DiskM.deed
  split
  · intro z; cases z
  · split
    · intro _; rfl
    · intro z; cases z
    · intro _; rfl
theorem pure_Disk_write {K : PySem.W.Frag} (T : TxtDisk K) : ∀ vs H Q E, sp_Disk_write K vs H Q E → t_Disk_write K E { nx := fun _ H' => Q .non H', rt := Q } (start N_Disk_write vs) H := by
  intro vs H Q E h
  match vs, h with
  | [s, bv, wv], h =>
    obtain ⟨p, F, D, n, d, rfl, A, rfl, hd, deep, slim, few, kk, ke⟩ := h
    obtain ⟨ls, lw, lp, _, ⟨dx, eo⟩, _⟩ := id A.ex
    refine ⟨_, rfl, p, dx, _, rfl, eo, no_Disk_need_block, _, rfl, n, rfl, fun n0 n6 => ?_, fun z => ke (fun y => z ⟨y.1, y.2.1⟩) H (Same.refl H)⟩
    obtain ⟨b, rfl⟩ : ∃ b : Nat, n = (b : Int) := ⟨n.toNat, by omega⟩
    have hb : b < 600 := by omega
    refine ⟨_, rfl, d, hd, deep, slim, fun H1 s1 => ⟨_, _, rfl, rfl, _, rfl, ?_⟩⟩
    by_cases lle : (40 : Int) < ((d.weight : Nat) : Int)
    · rw [decide_eq_true lle]
      exact ke (fun z => by have := z.2.2; omega) H1 s1
    have k := kk b rfl hb (by omega)
    rw [decide_eq_false lle]
    have A1 := A.same s1
    refine ⟨_, rfl, p, dx, _, rfl, s1 _ _ eo, no_Disk_deed, p, F, D, rfl, A1, fun H2 F2 A2 k2 o2 => ?_⟩
    have o02 : Own F F2 H := fun x hx => by
      rcases o2 x hx with z | z
      · exact .inl z
      · exact .inr (s1.free z)
    have k02 : But F H H2 := (But.same s1).trans k2
    unfold Out DiskM.does at k
    cases hb2 : D.deed.2 with
    | true =>
      rw [hb2, if_pos rfl, hb2] at k
      exact k H2 F2 A2 k02 o02
    | false =>
      rw [hb2, if_neg (by decide)] at k
      have dw := deed_waiting D hb2
      generalize D.deed.1 = D1 at *
      obtain ⟨ls2, lw2, lp2, rfl, ob2, L1, ⟨wvs, ew, pw⟩, e3, n1, n2, n3⟩ := id A2.ex
      have lw_ := pw.length
      rw [dw] at lw_
      have hd2 := DtAt.st _ _ _ _ (A1.tup k2) (DtAt.st _ _ _ _ (TupLe.same s1) hd)
      refine ⟨_, rfl, g_Disk_waiting T ob2 ⟨.inl ⟨rfl, _, SqL.of ew⟩, _, rfl, _, rfl, szle (by show 2 ≤ 100000; decide), fun t ht => ?_⟩⟩
      have s3 : Same H2 (upd H2 t (.tup [.int ((b : Nat) : Int), wv])) := Rs.Same.new ht
      have et : upd H2 t (.tup [.int ((b : Nat) : Int), wv]) t = some _ := upd_same
      generalize upd H2 t (.tup [.int ((b : Nat) : Int), wv]) = H3 at s3 et ⊢
      have ew3 := s3 _ _ ew
      have t4 : TupLe H3 (upd H3 lw2 (.lst (wvs ++ [.ref t]))) := (TupLe.refl _).list ew3
      have k4 : But [lw2] H3 (upd H3 lw2 (.lst (wvs ++ [.ref t]))) := (But.refl _ _).put (by simp)
      obtain ⟨dx2, eo2⟩ := id ob2
      have npw : p ≠ lw2 := ne_of eo2 ew (by intro z; cases z)
      refine ⟨_, _, _, rfl, rfl, ew3, szlt (by omega), ?_⟩
      have dat : DiskAt K (upd H3 lw2 (.lst (wvs ++ [.ref t]))) p [p, ls2, lw2, lp2] (D1.act (.wr b d)) := ⟨⟨ls2, lw2, lp2, rfl, ob2.keep fun o e => k4 _ _ (s3 _ _ e) (ne1 npw), (L1.same DtAt.st s3).keep DtAt.st t4 fun o e => k4 _ _ e (ne1 n1), ⟨_, upd_same, P2.app (Paired.tl WtAt.st ((TupLe.same s3).trans t4) pw) (P2.one ⟨wv, ⟨t, rfl, t4 _ _ et⟩, DtAt.st _ _ _ _ ((TupLe.same s3).trans t4) hd2⟩)⟩, k4 _ _ (s3 _ _ e3) (ne1 n3.symm), n1, n2, n3⟩, A2.len, by
        show (D1.waiting ++ [(b, d)]).length ≤ 5000
        rw [List.length_append, List.length_singleton, dw]
        omega, fun q hq => by
        rcases List.mem_append.mp hq with z | z
        · exact A2.at_ q z
        · rw [List.mem_singleton.mp z]
          exact hb⟩
      exact k _ _ dat ((k02.trans (But.same s3)).own o02 (k4.wide (by simp))) o02
end Rs

namespace Rs
open PySem PySem.Spec PyProof.Rows L2
open LamX
abbrev N_Disk_settle : List Str := ["self", "block", "what"]
abbrev P_Disk_settle : List Str := ["self"]
def sp_Disk_settle (K : PySem.W.Frag) : Sp := fun vs H Q E => match vs with
  | [s] => ∃ p F D, s = .ref p ∧ DiskAt K H p F D ∧ Out K H p F (D.does .st) (fun H' => Q .non H') (fun H' => E (.ref (He.ga K "Stopped")) none H')
  | _ => False
def t_Disk_settle (K : PySem.W.Frag) (E : XK) : TS := (tSeq (tDrop (tMeth (He.ga K "Disk") "deed" (sp_Disk_deed K) [] E (tVar 0) tNil))
  (tSeq (tFor (iList K (tFl K (tVar 0) "waiting")) (gTup K 2 (gCons (gName 1) (gCons (gName 2) gNil))) (tAsg (tVar 2) (gSub (tFl K (tVar 0) "settled") (tVar 1) rSetL)))
   (sFl K (tVar 0) (tLst tNil) "waiting")))
theorem setS_take {w : List (Nat × Dt)} {s : List Dt} {i : Nat} {q : Nat × Dt} (h : w[i]? = some q) : setS s (w.take (i + 1)) = (setS s (w.take i)).set q.1 q.2 := by
  rw [List.take_succ, h]
  exact setS_snoc s (w.take i) q
theorem pure_Disk_settle {K : PySem.W.Frag} (T : TxtDisk K) : ∀ vs H Q E, sp_Disk_settle K vs H Q E → t_Disk_settle K E { nx := fun _ H' => Q .non H', rt := Q } (start N_Disk_settle vs) H := by
  intro vs H Q E h
  match vs, h with
  | [s], h =>
    obtain ⟨p, F, D, rfl, A, k⟩ := h
    obtain ⟨_, _, _, _, ⟨dx0, eo0⟩, _⟩ := id A.ex
    refine ⟨_, rfl, p, dx0, _, rfl, eo0, no_Disk_deed, p, F, D, rfl, A, fun H1 F1 A1 k1 o1 => ?_⟩
    unfold Out DiskM.does at k
    cases hb2 : D.deed.2 with
    | true =>
      rw [hb2, if_pos rfl, hb2] at k
      exact k H1 F1 A1 k1 o1
    | false =>
      rw [hb2, if_neg (by decide)] at k
      generalize D.deed.1 = D1 at *
      obtain ⟨ls, lw, lp, rfl, ob, L1, ⟨wv, ew, pw⟩, e3, n1, n2, n3⟩ := id A1.ex
      obtain ⟨dx, eo⟩ := id ob
      have lwl := pw.length
      have aw := A1.at_
      have nps : p ≠ ls := L1.ne eo
      refine ⟨_, rfl, g_Disk_waiting T ob ⟨lw, rfl, ⟨_, SqL.of ew⟩, ?_⟩⟩
      refine for_list (K := K) (a := lw) (xs := wv) (fun i σ H' => ∃ x1 x2, σ = [some (.ref p), x1, x2] ∧ But [ls] H1 H' ∧ Lst DtAt H' ls (setS D1.settled (D1.waiting.take i))) ⟨none, none, rfl, But.refl _ _, by rw [List.take_zero]; exact L1⟩ ?_ ?_ ?_
      · rintro i σ H' _ ⟨_, _, _, kk, _⟩
        exact SqL.of (kk _ _ ew (ne1 n1.symm))
      · rintro i v σ H2 hi ⟨x1, x2, rfl, kk, lv, el, pl⟩
        obtain ⟨⟨b, d⟩, hq, w, ⟨a, rfl, ea⟩, hd⟩ := P2.get pw hi
        have bl := aw _ (List.mem_of_getElem? hq)
        dsimp only at bl ea hd
        have t2 : TupLe H1 H2 := kk.tupOf fun b hb => by
          rw [List.mem_singleton] at hb
          subst hb
          obtain ⟨vs, e, _⟩ := L1
          exact nt_lst e
        have ob2 : DiskOb K H2 p (.ref ls) (.ref lw) (leftV D1.left) (.ref lp) (.bl D1.down) := ob.keep fun o e => kk _ _ e (ne1 nps)
        have fl := setS_len (D1.waiting.take i) D1.settled
        have lvl := pl.length
        have slen := A1.len
        have t3 : TupLe H2 (upd H2 ls (.lst (lv.set b w))) := (TupLe.refl _).list el
        refine ⟨a, _, rfl, SqT.of (t2 _ _ ea), rfl, _, _, rfl, _, _, rfl, rfl, ?_⟩
        refine ⟨_, rfl, _, rfl, g_Disk_settled T ob2 ⟨_, rfl, ls, lv, _, b, rfl, rfl, el, ixN_nat (by omega), ?_⟩⟩
        refine ⟨_, _, rfl, kk.put (by simp), _, upd_same, ?_⟩
        rw [setS_take hq]
        exact P2.set (DtAt.st _ _ _ _ (t2.trans t3) hd) b (Paired.tl DtAt.st t3 pl)
      · rintro σ H2 ⟨x1, x2, rfl, kk, Ls⟩
        rw [List.take_of_length_le (by omega)] at Ls
        have t2 : TupLe H1 H2 := kk.tupOf fun b hb => by
          rw [List.mem_singleton] at hb
          subst hb
          obtain ⟨vs, e, _⟩ := L1
          exact nt_lst e
        have ob2 : DiskOb K H2 p (.ref ls) (.ref lw) (leftV D1.left) (.ref lp) (.bl D1.down) := ob.keep fun o e => kk _ _ e (ne1 nps)
        obtain ⟨dxa, eo2⟩ := id ob2
        obtain ⟨lva, els2, _⟩ := id Ls
        refine ⟨sz0, fun q hq => ⟨_, rfl, ?_⟩⟩
        have s3 : Same H2 (upd H2 q (.lst [])) := Rs.Same.new hq
        have eq : upd H2 q (.lst []) q = some (.lst []) := upd_same
        have qp : p ≠ q := ne_of_none eo2 hq
        have qls : ls ≠ q := ne_of_none els2 hq
        have elp2 := kk _ _ e3 (ne1 n2.symm)
        have qlp : lp ≠ q := ne_of_none elp2 hq
        have q0 : H1 q = none := none_of_but kk hq (ne1 qls.symm)
        generalize upd H2 q (.lst []) = H3 at s3 eq ⊢
        refine s_Disk_waiting T (ob2.keep fun o e => s3 _ _ e) fun dx3 h3 => ?_
        have k3 : ∀ u : HO, But [p] H3 (upd H3 p u) := fun u => (But.refl _ H3).put (by simp)
        have t3 : ∀ u : HO, TupLe H3 (upd H3 p u) := fun u => (k3 u).tupOf fun b hb => by rw [List.mem_singleton] at hb; subst hb; exact nt_ins h3
        have dat : ∀ u, u = HO.ins (He.ga K "Disk") dx3 (f_Disk (.ref ls) (.ref q) (leftV D1.left) (.ref lp) (.bl D1.down)) → DiskAt K (upd H3 p u) p [p, ls, q, lp] (D1.act .st) := fun u eu => by
          subst eu
          refine ⟨⟨ls, q, lp, rfl, ⟨dx3, upd_same⟩, (Ls.same DtAt.st s3).keep DtAt.st (t3 _) fun o e => k3 _ _ _ e (ne1 nps.symm), ⟨[], k3 _ _ _ eq (ne1 qp.symm), .nil⟩, k3 _ _ _ (s3 _ _ elp2) (ne1 ?_), qls, n2, qlp.symm⟩, ?_, Nat.zero_le _, ?_⟩
          · exact (ne_of eo e3 (by intro z; cases z)).symm
          · rw [← A1.len]
            exact setS_len _ _
          · intro q hq
            simp [DiskM.act] at hq
        have own : Own [p, ls, lw, lp] [p, ls, q, lp] H1 := fun x hx => by
          simp only [List.mem_cons, List.not_mem_nil, or_false] at hx ⊢
          rcases hx with rfl | rfl | rfl | rfl
          · exact .inl (.inl rfl)
          · exact .inl (.inr (.inl rfl))
          · exact .inr q0
          · exact .inl (.inr (.inr (.inr rfl)))
        exact k _ _ (dat _ rfl) (k1.own o1 (((kk.wide (by simp)).trans (But.same s3)).trans ((k3 _).wide (by simp)))) (o1.trans own k1)
abbrev N_Disk_read : List Str := ["self", "block", "one", "what"]
abbrev P_Disk_read : List Str := ["self", "block"]
def sp_Disk_read (K : PySem.W.Frag) : Sp := fun vs H Q E => match vs with
  | [s, bv] => ∃ p F D, ∃ n : Int, s = .ref p ∧ DiskAt K H p F D ∧ bv = .int n ∧
    (∀ b : Nat, n = (b : Int) → b < 600 → (D.down = true → E (.ref (He.ga K "Stopped")) none H) ∧ (D.down = false → ∀ v H', DtAt H' v (D.get b) → Same H H' → Q v H')) ∧ (¬ (0 ≤ n ∧ n < 600) → E (.ref (He.ga K "BadBlock")) none H)
  | _ => False
def t_Disk_read (K : PySem.W.Frag) (E : XK) : TS := (tSeq (tDrop (tMeth (He.ga K "Disk") "need_block" (sp_Disk_need_block K) [] E (tVar 0) (tCons (tVar 1) tNil)))
  (tSeq (tIfS (tB (tFl K (tVar 0) "is_down")) (tRaise E (.ref (He.ga K "Stopped"))) tNext)
   (tSeq (tFor (iRev K (tCons (tFl K (tVar 0) "waiting") tNil)) (gTup K 2 (gCons (gName 2) (gCons (gName 3) gNil))) 
      (tIfS (tTest (tOp rEq (tVar 2) (tVar 1))) (tRet (tVar 3)) tNext))
    (tRet (tOp (rIxL K) (tFl K (tVar 0) "settled") (tVar 1))))))
theorem pure_Disk_read {K : PySem.W.Frag} (T : TxtDisk K) : ∀ vs H Q E, sp_Disk_read K vs H Q E → t_Disk_read K E { nx := fun _ H' => Q .non H', rt := Q } (start N_Disk_read vs) H := by
  intro vs H Q E h
  match vs, h with
  | [s, bv], h =>
    obtain ⟨p, F, D, n, rfl, A, rfl, kk, ke⟩ := h
    obtain ⟨ls, lw, lp, rfl, ob, ⟨sv, es, ps⟩, ⟨wv, ew, pw⟩, e3, n1, n2, n3⟩ := id A.ex
    obtain ⟨dx, eo⟩ := id ob
    refine ⟨_, rfl, p, dx, _, rfl, eo, no_Disk_need_block, _, rfl, n, rfl, fun n0 n6 => ?_, ke⟩
    obtain ⟨b, rfl⟩ : ∃ b : Nat, n = (b : Int) := ⟨n.toNat, by omega⟩
    have hb : b < 600 := by omega
    obtain ⟨kd, kg⟩ := kk b rfl hb
    refine ⟨_, rfl, g_Disk_is_down T ob ⟨_, rfl, ?_⟩⟩
    cases hd : D.down with
    | true => exact kd hd
    | false =>
      have kg := kg hd
      have lwl := pw.length
      have lsl := ps.length
      have slen := A.len
      refine ⟨_, rfl, g_Disk_waiting T ob ⟨lw, wv, rfl, SqL.of ew, ?_⟩⟩
      refine for_it (walk_rev (K := K) (a := lw) (xs := wv)) (fun i σ H' => ∃ x2 x3, σ = [some (.ref p), some (.int ((b : Nat) : Int)), x2, x3] ∧ H' = H ∧ D.waiting.reverse.find? (fun q => decide (q.1 = b)) = (D.waiting.reverse.drop i).find? fun q => decide (q.1 = b))
        ⟨none, none, rfl, rfl, rfl⟩ ?_ ?_ ?_
      · rintro i σ H' _ ⟨_, _, _, rfl, _⟩
        exact SqL.of ew
      · rintro i x σ H2 H3 hi ⟨x2, x3, rfl, rfl, hf⟩ ⟨e23, hx⟩
        subst e23
        obtain ⟨⟨b', d⟩, hq, w, ⟨a, rfl, ea⟩, hdt⟩ := P2.get pw hx
        have hr : D.waiting.reverse[i]? = some (b', d) := by
          rw [List.getElem?_reverse (by omega), ← hq, lwl]
        rw [drop_cons hr, List.find?_cons] at hf
        refine ⟨a, _, rfl, SqT.of ea, rfl, _, _, rfl, _, _, rfl, rfl, ?_⟩
        refine ⟨_, rfl, _, rfl, rfl, _, rfl, ?_⟩
        by_cases c : b' = b
        · subst c
          rw [decide_eq_true rfl] at hf ⊢
          refine ⟨_, rfl, kg w _ ?_ (Same.refl _)⟩
          unfold DiskM.get
          rw [hf]
          exact hdt
        · rw [decide_eq_false (fun z => c (by injection z with z; omega) : ¬ V.int ((b' : Nat) : Int) = V.int ((b : Nat) : Int))]
          rw [decide_eq_false (show ¬ (b', d).1 = b from c)] at hf
          exact ⟨_, _, rfl, rfl, hf⟩
      · rintro σ H2 ⟨x2, x3, rfl, rfl, hf⟩
        rw [List.drop_of_length_le (by rw [List.length_reverse]; omega)] at hf
        obtain ⟨v, hv⟩ : ∃ v, sv[b]? = some v := ⟨_, List.getElem?_eq_getElem (by omega)⟩
        obtain ⟨d, hd2, hdt⟩ := P2.get ps hv
        refine ⟨_, rfl, g_Disk_settled T ob ⟨_, rfl, ixL es (j := b) rfl hv (kg v _ ?_ (Same.refl _))⟩⟩
        unfold DiskM.get
        rw [hf]
        show DtAt _ v (D.settled.getD b .non)
        rw [List.getD_eq_getElem?_getD, hd2]
        exact hdt
abbrev N_Disk_arm : List Str := ["self", "deeds", "picks"]
abbrev P_Disk_arm : List Str := ["self", "deeds", "picks"]
def sp_Disk_arm (K : PySem.W.Frag) : Sp := fun vs H Q E => match vs with
  | [s, nv, pv] => ∃ p F D n lp ps, s = .ref p ∧ DiskAt K H p F D ∧ nv = .int ((n : Nat) : Int) ∧ pv = .ref lp ∧ H lp = some (.lst (ps.map V.bl)) ∧ lp ∉ F ∧ ∀ H' F', DiskAt K H' p F' (if D.down = true then D else ⟨D.settled, D.waiting, some n, ps, false⟩) → But F H H' → Own F F' H → Q .non H'
  | _ => False
def t_Disk_arm (K : PySem.W.Frag) (E : XK) : TS := (tIfS (tNot (tB (tFl K (tVar 0) "is_down"))) 
    (tSeq (sFl K (tVar 0) (tCB xMax2 (tConsC (.int 0) (tCons (tVar 1) tNil))) "left")
    (sFl K (tVar 0) (tCB1 (xList K) (tVar 2)) "picks")) tNext)
theorem pure_Disk_arm {K : PySem.W.Frag} (T : TxtDisk K) : ∀ vs H Q E, sp_Disk_arm K vs H Q E → t_Disk_arm K E { nx := fun _ H' => Q .non H', rt := Q } (start N_Disk_arm vs) H := by
  intro vs H Q E h
  match vs, h with
  | [s, nv, pv], h =>
    obtain ⟨p, F, D, n, la, ps, rfl, A, rfl, rfl, ea, nla, k⟩ := h
    obtain ⟨ls, lw, lp, rfl, ob, L1, L2, e3, n1, n2, n3⟩ := id A.ex
    obtain ⟨dx, eo⟩ := id ob
    have nps : p ≠ ls := L1.ne eo
    have npw : p ≠ lw := L2.ne eo
    have npa : p ≠ la := ne_of eo ea (by intro z; cases z)
    refine ⟨_, rfl, g_Disk_is_down T ob ⟨_, rfl, ?_⟩⟩
    cases dn : D.down with
    | true =>
      rw [dn, if_pos rfl] at k
      exact k H _ A (But.refl _ _) (Own.refl _ _)
    | false =>
    rw [dn, if_neg (by decide)] at k
    refine ⟨_, rfl, _, _, rfl, _, rfl, s_Disk_left T ob fun dx2 h2 => ?_⟩
    have en : (if ((n : Nat) : Int) > 0 then ((n : Nat) : Int) else 0) = ((n : Nat) : Int) := by split <;> omega
    dsimp only
    rw [en]
    have k2 : But [p] H (upd H p (.ins (He.ga K "Disk") dx2 (f_Disk (.ref ls) (.ref lw) (.int ((n : Nat) : Int)) (.ref lp) (.bl D.down)))) := (But.refl _ H).put (by simp)
    have e2 : upd H p (.ins (He.ga K "Disk") dx2 (f_Disk (.ref ls) (.ref lw) (.int ((n : Nat) : Int)) (.ref lp) (.bl D.down))) p = some _ := upd_same
    generalize upd H p (.ins (He.ga K "Disk") dx2 (f_Disk (.ref ls) (.ref lw) (.int ((n : Nat) : Int)) (.ref lp) (.bl D.down))) = H2 at k2 e2 ⊢
    have t2 : TupLe H H2 := k2.tupOf fun b hb => by rw [List.mem_singleton] at hb; subst hb; exact nt_ins eo
    refine ⟨_, rfl, la, _, rfl, .inl (SqL.of (k2 _ _ ea (ne1 npa.symm))), fun q hq => ⟨_, rfl, ?_⟩⟩
    have s3 : Same H2 (upd H2 q (.lst (ps.map V.bl))) := Rs.Same.new hq
    have eq : upd H2 q (.lst (ps.map V.bl)) q = some (.lst (ps.map V.bl)) := upd_same
    have qp : p ≠ q := ne_of_none e2 hq
    have els2 := L1.keep DtAt.st t2 fun o e => k2 _ _ e (ne1 nps.symm)
    have elw2 := L2.keep WtAt.st t2 fun o e => k2 _ _ e (ne1 npw.symm)
    have qls : ls ≠ q := let ⟨_, e, _⟩ := els2; ne_of_none e hq
    have qlw : lw ≠ q := let ⟨_, e, _⟩ := elw2; ne_of_none e hq
    have q0 : H q = none := none_of_but k2 hq (ne1 qp.symm)
    generalize upd H2 q (.lst (ps.map V.bl)) = H3 at s3 eq ⊢
    refine s_Disk_picks T ⟨dx2, s3 _ _ e2⟩ fun dx3 h3 => ?_
    have k3 : ∀ u : HO, But [p] H3 (upd H3 p u) := fun u => (But.refl _ H3).put (by simp)
    have t3 : ∀ u : HO, TupLe H3 (upd H3 p u) := fun u => (k3 u).tupOf fun b hb => by rw [List.mem_singleton] at hb; subst hb; exact nt_ins h3
    refine k _ [p, ls, lw, q] ⟨⟨ls, lw, q, rfl, ⟨dx3, ?_⟩, (els2.same DtAt.st s3).keep DtAt.st (t3 _) fun o e => k3 _ _ _ e (ne1 nps.symm), (elw2.same WtAt.st s3).keep WtAt.st (t3 _) fun o e => k3 _ _ _ e (ne1 npw.symm), k3 _ _ _ eq (ne1 qp.symm), n1, qls, qlw⟩, A.len, A.few, A.at_⟩ (((k2.wide (by simp)).trans (But.same s3)).trans ((k3 _).wide (by simp))) ?_
    · rw [upd_same, dn]
      rfl
    · intro x hx
      simp only [List.mem_cons, List.not_mem_nil, or_false] at hx ⊢
      rcases hx with rfl | rfl | rfl | rfl
      · exact .inl (.inl rfl)
      · exact .inl (.inr (.inl rfl))
      · exact .inl (.inr (.inr (.inl rfl)))
      · exact .inr q0
abbrev N_Disk_again : List Str := ["self"]
abbrev P_Disk_again : List Str := ["self"]
def sp_Disk_again (K : PySem.W.Frag) : Sp := fun vs H Q E => match vs with
  | [s] => ∃ p F D, s = .ref p ∧ DiskAt K H p F D ∧ ∀ H' F', DiskAt K H' p F' ⟨D.settled, [], none, [], false⟩ → But F H H' → Own F F' H → Q .non H'
  | _ => False
def t_Disk_again (K : PySem.W.Frag) (E : XK) : TS := (tSeq (sFl K (tVar 0) (tLst tNil) "waiting")
  (tSeq (sFl K (tVar 0) (tC .non) "left")
   (tSeq (sFl K (tVar 0) (tLst tNil) "picks")
    (sFl K (tVar 0) (tC (.bl false)) "is_down"))))
theorem pure_Disk_again {K : PySem.W.Frag} (T : TxtDisk K) : ∀ vs H Q E, sp_Disk_again K vs H Q E → t_Disk_again K E { nx := fun _ H' => Q .non H', rt := Q } (start N_Disk_again vs) H := by
  intro vs H Q E h
  match vs, h with
  | [s], h =>
    obtain ⟨p, F, D, rfl, A, k⟩ := h
    obtain ⟨ls, lw, lp, rfl, ob, L1, L2, e3, n1, n2, n3⟩ := id A.ex
    obtain ⟨dx, eo⟩ := id ob
    have nps : p ≠ ls := L1.ne eo
    refine ⟨sz0, fun w hw => ⟨_, rfl, ?_⟩⟩
    have npw : p ≠ w := ne_of_none eo hw
    have nsw : ls ≠ w := let ⟨_, e, _⟩ := L1; ne_of_none e hw
    generalize gX : upd _ w _ = H1
    have s1 := newS hw gX
    have ew := newE gX
    clear gX
    refine s_Disk_waiting T (ob.keep fun o e => s1 _ _ e) fun dx2 h2 => ?_
    generalize gX : upd _ p _ = H2
    have b2 := putB gX
    have e2 := newE gX
    have t2 := putT h2 (by intro _ z; cases z) gX
    clear gX
    refine ⟨_, rfl, s_Disk_left T ⟨dx2, e2⟩ fun dx3 h3 => ?_⟩
    generalize gX : upd _ p _ = H3
    have b3 := putB gX
    have e3' := newE gX
    have t3 := putT h3 (by intro _ z; cases z) gX
    clear gX
    refine ⟨sz0, fun q hq => ⟨_, rfl, ?_⟩⟩
    have npq : p ≠ q := ne_of_none e3' hq
    have b03 : But [p] H H3 := ((But.same s1).trans b2).trans b3
    have q0 : H q = none := none_of_but b03 hq (ne1 npq.symm)
    have nsq : ls ≠ q := let ⟨_, e, _⟩ := L1; ne_of_none e q0
    have nwq : w ≠ q := ne_of_none ((b2.trans b3) _ _ ew (ne1 npw.symm)) hq
    generalize gX : upd _ q _ = H4
    have s4 := newS hq gX
    have eq := newE gX
    clear gX
    refine s_Disk_picks T ⟨dx3, s4 _ _ e3'⟩ fun dx4 h4 => ?_
    generalize gX : upd _ p _ = H5
    have b5 := putB gX
    have e5 := newE gX
    have t5 := putT h4 (by intro _ z; cases z) gX
    clear gX
    refine ⟨_, rfl, s_Disk_is_down T ⟨dx4, e5⟩ fun dx5 h5 => ?_⟩
    generalize gX : upd _ p _ = H6
    have b6 := putB gX
    have e6 := newE gX
    have t6 := putT h5 (by intro _ z; cases z) gX
    clear gX
    have b46 : But [p] H4 H6 := b5.trans b6
    have b06 : But [p] H H6 := (b03.trans (But.same s4)).trans b46
    have t06 : TupLe H H6 := b06.tupOf fun b hb => by rw [List.mem_singleton] at hb; subst hb; exact nt_ins eo
    refine k H6 [p, ls, w, q] ⟨⟨ls, w, q, rfl, ⟨dx5, e6⟩, L1.keep DtAt.st t06 fun o e => b06 _ _ e (ne1 nps.symm), ⟨[], b46 _ _ (s4 _ _ ((b2.trans b3) _ _ ew (ne1 npw.symm))) (ne1 npw.symm), .nil⟩, b46 _ _ eq (ne1 npq.symm), nsw, nsq, nwq⟩, A.len, Nat.zero_le _, fun z hz => by simp at hz⟩ (b06.wide (by simp)) ?_
    intro x hx
    simp only [List.mem_cons, List.not_mem_nil, or_false] at hx ⊢
    rcases hx with rfl | rfl | rfl | rfl
    · exact .inl (.inl rfl)
    · exact .inl (.inr (.inl rfl))
    · exact .inr hw
    · exact .inr q0
abbrev N_Disk_blocks : List Str := ["self"]
abbrev P_Disk_blocks : List Str := ["self"]
def sp_Disk_blocks (K : PySem.W.Frag) : Sp := fun vs H Q E => match vs with
  | [s] => ∃ p F D, s = .ref p ∧ DiskAt K H p F D ∧ ∀ l H', H l = none → Lst DtAt H' l D.settled → Same H H' → Q (.ref l) H'
  | _ => False
def t_Disk_blocks (K : PySem.W.Frag) (E : XK) : TS := (tRet (tCB1 (xList K) (tFl K (tVar 0) "settled")))
theorem pure_Disk_blocks {K : PySem.W.Frag} (T : TxtDisk K) : ∀ vs H Q E, sp_Disk_blocks K vs H Q E → t_Disk_blocks K E { nx := fun _ H' => Q .non H', rt := Q } (start N_Disk_blocks vs) H := by
  intro vs H Q E h
  match vs, h with
  | [s], h =>
    obtain ⟨p, F, D, rfl, A, k⟩ := h
    obtain ⟨ls, lw, lp, rfl, ob, ⟨sv, es, ps⟩, _⟩ := id A.ex
    refine ⟨_, rfl, g_Disk_settled T ob ⟨ls, sv, rfl, .inl (SqL.of es), fun l hl => ?_⟩⟩
    exact k l _ hl ⟨sv, upd_same, Paired.tl DtAt.st (TupLe.new hl) ps⟩ (Rs.Same.new hl)
abbrev N_Disk___init__ : List Str := ["self"]
abbrev P_Disk___init__ : List Str := ["self"]
def newDisk : DiskM := ⟨List.replicate 600 .non, [], none, [], false⟩
def sp_Disk___init__ (K : PySem.W.Frag) : Sp := fun vs H Q E => match vs with
  | [s] => ∃ p dx, s = .ref p ∧ H p = some (.ins (He.ga K "Disk") dx []) ∧ ∀ H' F, DiskAt K H' p F newDisk → But [p] H H' → Own [p] F H → Q .non H'
  | _ => False
def t_Disk___init__ (K : PySem.W.Frag) (E : XK) : TS := (tSeq (sFl K (tVar 0) (tOpC rRep (tLst (tConsC .non tNil)) (.int 600)) "settled")
  (tSeq (sFl K (tVar 0) (tLst tNil) "waiting")
   (tSeq (sFl K (tVar 0) (tC .non) "left")
    (tSeq (sFl K (tVar 0) (tLst tNil) "picks")
     (sFl K (tVar 0) (tC (.bl false)) "is_down")))))
theorem non_paired {H : Hp} : ∀ n : Nat, Paired (DtAt H) (List.replicate n V.non) (List.replicate n Dt.non)
  | 0 => .nil
  | n + 1 => .cons .non (non_paired n)
theorem rep_flat {α : Type} (x : α) : ∀ n : Nat, (List.replicate n [x]).flatten = List.replicate n x
  | 0 => rfl
  | n + 1 => by rw [List.replicate_succ, List.flatten_cons, rep_flat x n, List.replicate_succ]; rfl
theorem pure_Disk___init__ {K : PySem.W.Frag} (T : TxtDisk K) : ∀ vs H Q E, sp_Disk___init__ K vs H Q E → t_Disk___init__ K E { nx := fun _ H' => Q .non H', rt := Q } (start N_Disk___init__ vs) H := by
  intro vs H Q E h
  match vs, h with
  | [s], h =>
    obtain ⟨p, dx, rfl, hp, k⟩ := h
    refine ⟨szle (by show 1 ≤ 100000; decide), fun q hq => ?_⟩
    have s1 : Same H (upd H q (.lst [.non])) := Rs.Same.new hq
    have eq : upd H q (.lst [.non]) q = some (.lst [.non]) := upd_same
    generalize upd H q (.lst [.non]) = H1 at s1 eq ⊢
    refine ⟨q, 600, _, rfl, rfl, eq, by decide, by decide, szle (by decide), fun ls hls => ⟨_, rfl, ?_⟩⟩
    have ef : (List.replicate (600 : Int).toNat [V.non]).flatten = List.replicate 600 V.non := rep_flat _ _
    rw [ef]
    have s2 : Same H1 (upd H1 ls (.lst (List.replicate 600 V.non))) := Rs.Same.new hls
    have els : upd H1 ls (.lst (List.replicate 600 V.non)) ls = some _ := upd_same
    have ls0 : H ls = none := s1.free hls
    generalize upd H1 ls (.lst (List.replicate 600 V.non)) = H2 at s2 els ⊢
    have s02 := s1.trans s2
    have hp2 := s02 _ _ hp
    have npl : p ≠ ls := ne_of_none hp ls0
    refine n_Disk_settled T hp2 ?_
    have k3 : ∀ u, But [p] H2 (upd H2 p u) := fun u => (But.refl _ _).put (by simp)
    have hp3 : upd H2 p (.ins (He.ga K "Disk") dx (i_Disk_1 (.ref ls))) p = some _ := upd_same
    have els3 := k3 (.ins (He.ga K "Disk") dx (i_Disk_1 (.ref ls))) _ _ els (ne1 npl.symm)
    have k03 := (But.same s02).trans (k3 (.ins (He.ga K "Disk") dx (i_Disk_1 (.ref ls))))
    generalize upd H2 p (.ins (He.ga K "Disk") dx (i_Disk_1 (.ref ls))) = H3 at hp3 els3 k03 ⊢
    refine ⟨sz0, fun lw hlw => ⟨_, rfl, ?_⟩⟩
    have s4 : Same H3 (upd H3 lw (.lst [])) := Rs.Same.new hlw
    have elw : upd H3 lw (.lst []) lw = some (.lst []) := upd_same
    have npw : p ≠ lw := ne_of_none hp3 hlw
    have nlw : ls ≠ lw := ne_of_none els3 hlw
    have lw0 : H lw = none := none_of_but k03 hlw (ne1 npw.symm)
    generalize upd H3 lw (.lst []) = H4 at s4 elw ⊢
    refine n_Disk_waiting T (s4 _ _ hp3) ⟨_, rfl, n_Disk_left T upd_same ?_⟩
    have k5 : ∀ u1 u2, But [p] H4 (upd (upd H4 p u1) p u2) := fun u1 u2 => ((But.refl _ _).put (by simp)).put (by simp)
    have hp5 : upd (upd H4 p (.ins (He.ga K "Disk") dx (i_Disk_2 (.ref ls) (.ref lw)))) p (.ins (He.ga K "Disk") dx (i_Disk_3 (.ref ls) (.ref lw) .non)) p = some _ := upd_same
    have k45 := k5 (.ins (He.ga K "Disk") dx (i_Disk_2 (.ref ls) (.ref lw))) (.ins (He.ga K "Disk") dx (i_Disk_3 (.ref ls) (.ref lw) .non))
    generalize upd (upd H4 p (.ins (He.ga K "Disk") dx (i_Disk_2 (.ref ls) (.ref lw)))) p (.ins (He.ga K "Disk") dx (i_Disk_3 (.ref ls) (.ref lw) .non)) = H5 at hp5 k45 ⊢
    have els5 := k45 _ _ (s4 _ _ els3) (ne1 npl.symm)
    have elw5 := k45 _ _ elw (ne1 npw.symm)
    have k05 := (k03.trans (But.same s4)).trans k45
    refine ⟨sz0, fun lp hlp => ⟨_, rfl, ?_⟩⟩
    have s6 : Same H5 (upd H5 lp (.lst [])) := Rs.Same.new hlp
    have elp : upd H5 lp (.lst []) lp = some (.lst []) := upd_same
    have npp : p ≠ lp := ne_of_none hp5 hlp
    have nlp : ls ≠ lp := ne_of_none els5 hlp
    have nwp : lw ≠ lp := ne_of_none elw5 hlp
    have lp0 : H lp = none := none_of_but k05 hlp (ne1 npp.symm)
    generalize upd H5 lp (.lst []) = H6 at s6 elp ⊢
    refine n_Disk_picks T (s6 _ _ hp5) ⟨_, rfl, n_Disk_is_down T upd_same ?_⟩
    have k7 : ∀ u1 u2, But [p] H6 (upd (upd H6 p u1) p u2) := fun u1 u2 => ((But.refl _ _).put (by simp)).put (by simp)
    refine k _ [p, ls, lw, lp] ⟨⟨ls, lw, lp, rfl, ⟨dx, ?_⟩, ⟨_, k7 _ _ _ _ (s6 _ _ els5) (ne1 npl.symm), non_paired 600⟩, ⟨[], k7 _ _ _ _ (s6 _ _ elw5) (ne1 npw.symm), .nil⟩, k7 _ _ _ _ elp (ne1 npp.symm), nlw, nlp, nwp⟩, ?_, Nat.zero_le _, fun q hq => by simp [newDisk] at hq⟩ ((k05.trans (But.same s6)).trans (k7 _ _)) ?_
    · rw [upd_same]
      rfl
    · show (List.replicate 600 Dt.non).length = 600
      exact List.length_replicate
    · intro x hx
      simp only [List.mem_cons, List.not_mem_nil, or_false] at hx ⊢
      rcases hx with rfl | rfl | rfl | rfl
      · exact .inl rfl
      · exact .inr ls0
      · exact .inr lw0
      · exact .inr lp0
end Rs

namespace Rs
open PySem PySem.Spec PyProof.Rows L2
open LamX
def ownK (ls lw : Addr) (l : V) (lp : Addr) (b : Bool) : List (Key × V) := [(Sum.inr "settled", .ref ls), (Sum.inr "pending", .ref lw), (Sum.inr "left", l), (Sum.inr "picks", .ref lp), (Sum.inr "fallen", .bl b)]
theorem sk_ne {a b : Str} (h : ¬ a = b) : ¬ (Sum.inr a : Key) = Sum.inr b := fun z => h (Sum.inr.inj z)
theorem pk_cons {κ : Type} [DecidableEq κ] {p : κ × V} {r : List (κ × V)} {k : κ} {v : V} (e : ¬ p.1 = k) : putK (p :: r) k v = p :: putK r k v := by
  unfold putK
  rw [List.any_cons, decide_eq_false e, Bool.false_or, List.map_cons, if_neg e]
  split <;> rfl
theorem pk_head {κ : Type} [DecidableEq κ] {p : κ × V} {r : List (κ × V)} {k : κ} {v : V} (e : p.1 = k) (n : ∀ q ∈ r, ¬ q.1 = k) : putK (p :: r) k v = (k, v) :: r := by
  unfold putK
  rw [List.any_cons, decide_eq_true e, Bool.true_or, if_pos rfl, List.map_cons, if_pos e, e]
  congr 1
  conv => rhs; rw [← List.map_id r]
  refine List.map_congr_left fun q hq => ?_
  rw [if_neg (n q hq)]
  rfl
section
variable {ls lw lp x : Addr} {l l2 : V} {b b2 : Bool}
theorem owK_settled : valV (ownK ls lw l lp b) (Sum.inr "settled") = some (.ref ls) := by
  unfold ownK
  rw [valV_pos rfl]
theorem owK_pending : valV (ownK ls lw l lp b) (Sum.inr "pending") = some (.ref lw) := by
  unfold ownK
  rw [valV_neg (sk_ne (by decide +kernel)), valV_pos rfl]
theorem owP_pending : putK (ownK ls lw l lp b) (Sum.inr "pending") (.ref x) = ownK ls x l lp b := by
  unfold ownK
  rw [pk_cons (sk_ne (by decide +kernel)), pk_head rfl fun q hq => by
    simp only [List.mem_cons, List.not_mem_nil, or_false] at hq
    rcases hq with rfl | rfl | rfl
    · exact sk_ne (by decide +kernel)
    · exact sk_ne (by decide +kernel)
    · exact sk_ne (by decide +kernel)]
theorem owK_left : valV (ownK ls lw l lp b) (Sum.inr "left") = some (l) := by
  unfold ownK
  rw [valV_neg (sk_ne (by decide +kernel)), valV_neg (sk_ne (by decide +kernel)), valV_pos rfl]
theorem owP_left : putK (ownK ls lw l lp b) (Sum.inr "left") (l2) = ownK ls lw l2 lp b := by
  unfold ownK
  rw [pk_cons (sk_ne (by decide +kernel)), pk_cons (sk_ne (by decide +kernel)), pk_head rfl fun q hq => by
    simp only [List.mem_cons, List.not_mem_nil, or_false] at hq
    rcases hq with rfl | rfl
    · exact sk_ne (by decide +kernel)
    · exact sk_ne (by decide +kernel)]
theorem owK_picks : valV (ownK ls lw l lp b) (Sum.inr "picks") = some (.ref lp) := by
  unfold ownK
  rw [valV_neg (sk_ne (by decide +kernel)), valV_neg (sk_ne (by decide +kernel)), valV_neg (sk_ne (by decide +kernel)), valV_pos rfl]
theorem owP_picks : putK (ownK ls lw l lp b) (Sum.inr "picks") (.ref x) = ownK ls lw l x b := by
  unfold ownK
  rw [pk_cons (sk_ne (by decide +kernel)), pk_cons (sk_ne (by decide +kernel)), pk_cons (sk_ne (by decide +kernel)), pk_head rfl fun q hq => by
    simp only [List.mem_cons, List.not_mem_nil, or_false] at hq
    rcases hq with rfl
    · exact sk_ne (by decide +kernel)]
theorem owK_fallen : valV (ownK ls lw l lp b) (Sum.inr "fallen") = some (.bl b) := by
  unfold ownK
  rw [valV_neg (sk_ne (by decide +kernel)), valV_neg (sk_ne (by decide +kernel)), valV_neg (sk_ne (by decide +kernel)), valV_neg (sk_ne (by decide +kernel)), valV_pos rfl]
theorem owP_fallen : putK (ownK ls lw l lp b) (Sum.inr "fallen") (.bl b2) = ownK ls lw l lp b2 := by
  unfold ownK
  rw [pk_cons (sk_ne (by decide +kernel)), pk_cons (sk_ne (by decide +kernel)), pk_cons (sk_ne (by decide +kernel)), pk_cons (sk_ne (by decide +kernel)), pk_head rfl fun q hq => by simp at hq]
end
structure OwnAt (H : Hp) (q : Addr) (G : List Addr) (D : DiskM) : Prop where
  ex : ∃ ls lw lp, G = [q, ls, lw, lp] ∧ H q = some (.dK (ownK ls lw (leftV D.left) lp D.down)) ∧ Lst DtAt H ls D.settled ∧ Lst WtAt H lw D.waiting ∧ H lp = some (.lst (D.picks.map V.bl)) ∧ ls ≠ lw ∧ ls ≠ lp ∧ lw ≠ lp
  len : D.settled.length = 600
  few : D.waiting.length ≤ 100
  at_ : ∀ p ∈ D.waiting, p.1 < 600
section
variable {H H' : Hp} {q : Addr} {G : List Addr} {D : DiskM}
theorem OwnAt.tup (h : OwnAt H q G D) (k : But G H H') : TupLe H H' := fun c xs e => by
  obtain ⟨ls, lw, lp, rfl, e0, ⟨_, e1, _⟩, ⟨_, e2, _⟩, e3, _⟩ := h.ex
  refine k c _ e fun z => ?_
  simp only [List.mem_cons, List.not_mem_nil, or_false] at z
  rcases z with rfl | rfl | rfl | rfl
  · rw [e0] at e; cases e
  · rw [e1] at e; cases e
  · rw [e2] at e; cases e
  · rw [e3] at e; cases e
theorem OwnAt.keep (h : OwnAt H q G D) (t : TupLe H H') (k : ∀ x o, x ∈ G → H x = some o → H' x = some o) : OwnAt H' q G D := by
  obtain ⟨ls, lw, lp, rfl, e0, l1, l2, e3, ne⟩ := h.ex
  exact ⟨⟨ls, lw, lp, rfl, k _ _ (by simp) e0, l1.keep DtAt.st t fun o e => k _ o (by simp) e, l2.keep WtAt.st t fun o e => k _ o (by simp) e, k _ _ (by simp) e3, ne⟩, h.len, h.few, h.at_⟩
theorem OwnAt.same (h : OwnAt H q G D) (s : Same H H') : OwnAt H' q G D := h.keep (TupLe.same s) fun x o _ e => s x o e
theorem OwnAt.there (h : OwnAt H q G D) : ∀ x ∈ G, ∃ u, H x = some u := fun x hx => by
  obtain ⟨ls, lw, lp, rfl, e0, ⟨_, e1, _⟩, ⟨_, e2, _⟩, e3, _⟩ := h.ex
  simp only [List.mem_cons, List.not_mem_nil, or_false] at hx
  rcases hx with rfl | rfl | rfl | rfl
  · exact ⟨_, e0⟩
  · exact ⟨_, e1⟩
  · exact ⟨_, e2⟩
  · exact ⟨_, e3⟩
theorem OwnAt.fresh (h : OwnAt H q G D) {x : Addr} (n : H x = none) : x ∉ G := fun z => by
  obtain ⟨u, e⟩ := h.there x z
  rw [n] at e
  cases e
theorem ow_get {σ : L2.St} {i : Nat} {s : Str} {v : V} {kvs : List (Key × V)} {Q : VK} (e : H q = some (.dK kvs)) (hσ : σ[i]? = some (some (.ref q))) (l : valV kvs (Sum.inr s) = some v) (k : Q v H) : (tDGet (tVar i) (tC (.str s))) σ H Q :=
  ⟨_, hσ, q, v, rfl, by rw [← l]; exact DGet.k (k := Sum.inr s) e, k⟩
end
abbrev N_law_made : List Str := []
abbrev P_law_made : List Str := []
def sp_law_made (K : PySem.W.Frag) : Sp := fun vs H Q E => match vs with
  | [] => ∀ q G H', OwnAt H' q G newDisk → (∀ x ∈ G, H x = none) → Same H H' → Q (.ref q) H'
  | _ => False
def t_law_made (K : PySem.W.Frag) (E : XK) : TS := (tRet (tDisp [ ((tC (.str "settled")) , (tOpC rRep (tLst (tConsC .non tNil)) (.int 600))) , ((tC (.str "pending")) , (tLst tNil)) , ((tC (.str "left")) , (tC .non)) , ((tC (.str "picks")) , (tLst tNil)) , ((tC (.str "fallen")) , (tC (.bl false))) ]))
theorem pure_law_made {K : PySem.W.Frag} : ∀ vs H Q E, sp_law_made K vs H Q E → t_law_made K E { nx := fun _ H' => Q .non H', rt := Q } (start N_law_made vs) H := by
  intro vs H Q E h
  match vs, h with
  | [], k =>
    intro q hq
    generalize gX : upd _ q _ = H1
    have s1 := newS hq gX
    have eq := newE gX
    clear gX
    refine ⟨szle (by show 1 ≤ 100000; decide), fun u hu => ?_⟩
    generalize gX : upd _ u _ = H2
    have s2 := newS hu gX
    have eu := newE gX
    clear gX
    refine ⟨u, 600, _, rfl, rfl, eu, by decide, by decide, szle (by decide), fun ls hls => ?_⟩
    have ef : (List.replicate (600 : Int).toNat [V.non]).flatten = List.replicate 600 V.non := rep_flat _ _
    rw [ef]
    generalize gX : upd _ ls _ = H3
    have s3 := newS hls gX
    have els := newE gX
    clear gX
    refine ⟨sz0, fun lw hlw => ?_⟩
    generalize gX : upd _ lw _ = H4
    have s4 := newS hlw gX
    have elw := newE gX
    clear gX
    refine ⟨sz0, fun lp hlp => ?_⟩
    generalize gX : upd _ lp _ = H5
    have s5 := newS hlp gX
    have elp := newE gX
    clear gX
    have s15 : Same H1 H5 := ((s2.trans s3).trans s4).trans s5
    refine ⟨s15 _ _ eq, ownK ls lw .non lp false, rfl, by show 5 ≤ 15; decide, ?_⟩
    have em : mergeK [] (ownK ls lw .non lp false) = ownK ls lw .non lp false := by
      rw [mergeK_app _ _ (by show ([Sum.inr "settled", Sum.inr "pending", Sum.inr "left", Sum.inr "picks", Sum.inr "fallen"] : List Key).Nodup; decide +kernel) (fun _ _ => rfl), List.nil_append]
    rw [em]
    have k6 : Same H (upd H5 q (.dK (ownK ls lw .non lp false))) := Rs.Same.mut (s1.trans s15) hq
    have b6 : ∀ x v, x ≠ q → H5 x = some v → upd H5 q (.dK (ownK ls lw .non lp false)) x = some v := fun x v n e => by rw [upd_ne n]; exact e
    have nls : ls ≠ q := fun z => by rw [z, s2 _ _ eq] at hls; cases hls
    have nlw : lw ≠ q := fun z => by rw [z, s3 _ _ (s2 _ _ eq)] at hlw; cases hlw
    have nlp : lp ≠ q := fun z => by rw [z, s4 _ _ (s3 _ _ (s2 _ _ eq))] at hlp; cases hlp
    have e3 := s4 _ _ els
    have e4 := s5 _ _ elw
    refine k q [q, ls, lw, lp] _ ⟨⟨ls, lw, lp, rfl, upd_same, ⟨_, b6 _ _ nls (s5 _ _ e3), non_paired 600⟩, ⟨[], b6 _ _ nlw e4, .nil⟩, b6 _ _ nlp elp, ne_of_none els hlw, ne_of_none e3 hlp, ne_of_none elw hlp⟩, by show (List.replicate 600 Dt.non).length = 600; exact List.length_replicate, Nat.zero_le _, fun p hp => by simp [newDisk] at hp⟩ ?_ k6
    intro x hx
    simp only [List.mem_cons, List.not_mem_nil, or_false] at hx
    rcases hx with rfl | rfl | rfl | rfl
    · exact hq
    · exact s1.free (s2.free hls)
    · exact s1.free (s2.free (s3.free hlw))
    · exact s1.free (s2.free (s3.free (s4.free hlp)))
abbrev N_law_weight : List Str := ["_law_what_here", "_law_one"]
abbrev P_law_weight : List Str := ["_law_what_here"]
def spr_law_weight (K : PySem.W.Frag) (d : Nat) : Sp := fun vs H Q E => match vs with
  | [v] => ∃ x : Dt, DtAt H v x ∧ x.depth < d ∧ x.slim ∧ ∀ H', Same H H' → Q (.int (x.weight : Int)) H'
  | _ => False
abbrev sp_law_weight (K : PySem.W.Frag) : Sp := spr_law_weight K 12
theorem no_law_weight (K : PySem.W.Frag) : ∀ vs H Q E, ¬ spr_law_weight K 0 vs H Q E := fun vs H Q E h => by
  unfold spr_law_weight at h
  match vs, h with
  | [_], ⟨_, _, h1, _⟩ => omega
theorem len_law_weight (K : PySem.W.Frag) : ∀ d vs H Q E, spr_law_weight K d vs H Q E → vs.length = 1 := fun d vs H Q E h => by
  unfold spr_law_weight at h
  match vs, h with
  | [_], _ => rfl
def t_law_weight (K : PySem.W.Frag) (sp : Sp) (E : XK) : TS := (tSeq (tIfS (tNot (tB (tIsi K "tuple" (tVar 0)))) (tRet (tC (.int 1))) tNext)
  (tRet (tCB1 (rSum K) (tLc (iTup K (tVar 0)) (gName 1) tYes (tCall sp [] E0 (tCons (tVar 1) tNil)) [1]))))
theorem pure_law_weight {K : PySem.W.Frag} (d : Nat) : ∀ vs H Q E, spr_law_weight K (d + 1) vs H Q E → t_law_weight K (spr_law_weight K d) E { nx := fun _ H' => Q .non H', rt := Q } (start N_law_weight vs) H := by
  intro vs H Q E hyp
  unfold spr_law_weight at hyp
  match vs, hyp with
  | [v], hyp =>
    obtain ⟨x, hx, hd, hs, k⟩ := hyp
    cases x with
    | int n =>
      cases hx
      exact ⟨_, rfl, isi_go (t := "int") (b := false) (.base (.int n)) (by decide +kernel) ⟨_, rfl, k H (Same.refl H)⟩⟩
    | str n =>
      cases hx
      exact ⟨_, rfl, isi_go (t := "str") (b := false) (.base (.str n)) (by decide +kernel) ⟨_, rfl, k H (Same.refl H)⟩⟩
    | bool n =>
      cases hx
      exact ⟨_, rfl, isi_go (t := "bool") (b := false) (.base (.bl n)) (by decide +kernel) ⟨_, rfl, k H (Same.refl H)⟩⟩
    | non =>
      cases hx
      exact ⟨_, rfl, isi_go (t := "NoneType") (b := false) (.base .non) (by decide +kernel) ⟨_, rfl, k H (Same.refl H)⟩⟩
    | tup ds =>
      obtain ⟨a, tv, rfl, et, pt⟩ := DtAt.untup hx
      have lt := pt.length
      rw [Dt.depth] at hd
      rw [Dt.slim] at hs
      have sl := Dt.slimL_of hs.2
      refine ⟨_, rfl, isi_go (t := "tuple") (b := true) (tyT (SqT.of et)) (by decide +kernel) ⟨_, rfl, ?_⟩⟩
      refine ⟨_, rfl, a, rfl, ⟨_, SqT.of et⟩, fun D hD => ?_⟩
      refine lcm_tup (S := IntAt) (fun q : Dt => some (q.weight : Int)) IntAt.st et pt hD ?_ (by omega) ?_
      · intro j v x H' hx hj r s skip put
        have xm := List.mem_of_getElem? hx
        have dl := Dt.depthL_le xm
        exact ⟨rfl, lc_yes ⟨_, rfl, x, DtAt.st _ _ _ _ (TupLe.same s) r, by omega, sl x xm, fun H2 s2 => put H2 _ _ s2 rfl rfl⟩⟩
      · intro H2 L s
        rw [fm_some] at L
        refine ⟨D, _, rfl, SqL.of (Lst.ints.mp L), ?_⟩
        have e : (ds.map fun q => (q.weight : Int)).sum = (((Dt.tup ds).weight : Nat) : Int) := by
          rw [Dt.weight, Dt.weightL_map, ← nat_sum_int, List.map_map]
          rfl
        rw [e]
        exact k H2 s
end Rs

namespace Rs
open PySem PySem.Spec PyProof.Rows L2
open LamX
abbrev N_law_fall : List Str := ["_law_own", "_law_picks", "_law_k", "_law_block", "_law_what_here"]
abbrev P_law_fall : List Str := ["_law_own", "_law_picks"]
def sp_law_fall (K : PySem.W.Frag) : Sp := fun vs H Q E => match vs with
  | [ov, pv] => ∃ q G D lp ps, ov = .ref q ∧ OwnAt H q G D ∧ pv = .ref lp ∧ H lp = some (.lst (ps.map V.bl)) ∧ ps.length ≤ 100 ∧ ∀ H' G', OwnAt H' q G' (D.fall ps) → But G H H' → Own G G' H → Q .non H'
  | _ => False
def t_law_fall (K : PySem.W.Frag) (E : XK) : TS := (tSeq (tFor (iRng1 (tCons (tCB1 (xLen K) (tDGet (tVar 0) (tC (.str "pending")))) tNil)) (gName 2) 
    (tSeq (tAsg (tOp (rIxL K) (tDGet (tVar 0) (tC (.str "pending"))) (tVar 2)) (gTup K 2 (gCons (gName 3) (gCons (gName 4) gNil))))
    (tIfS (tB (tOp (rIxL K) (tOp rCat (tCB1 (xList K) (tVar 1)) (tOpC rRep (tLst (tConsC (.bl false) tNil)) (.int 200))) (tVar 2))) (tAsg (tVar 4) (gSub (tDGet (tVar 0) (tC (.str "settled"))) (tVar 3) rSetL)) tNext)))
  (tSeq (sDPut (tVar 0) (tC (.str "pending")) (tLst tNil))
   (sDPut (tVar 0) (tC (.str "fallen")) (tC (.bl true)))))
theorem fallS_no (n : Nat) : ∀ (w : List (Nat × Dt)) (s : List Dt), fallS s w (List.replicate n false) = s := by
  induction n with
  | zero => intro w s; cases w <;> rfl
  | succ n ih =>
    intro w s
    cases w with
    | nil => rfl
    | cons q w => exact ih w s
theorem fallS_pad (n : Nat) : ∀ (w : List (Nat × Dt)) (s : List Dt) (ps : List Bool), fallS s w (ps ++ List.replicate n false) = fallS s w ps
  | [], s, [] => by cases n <;> rfl
  | [], s, _ :: _ => rfl
  | q :: w, s, [] => by
    rw [List.nil_append, fallS_no]
    rfl
  | q :: w, s, p :: ps => fallS_pad n w _ ps
theorem pure_law_fall {K : PySem.W.Frag} : ∀ vs H Q E, sp_law_fall K vs H Q E → t_law_fall K E { nx := fun _ H' => Q .non H', rt := Q } (start N_law_fall vs) H := by
  intro vs H Q E h
  match vs, h with
  | [ov, pv], h =>
    obtain ⟨q, G, D, lpk, ps, rfl, A, rfl, epk, few, k⟩ := h
    obtain ⟨ls, lw, lp, rfl, e0, L1, ⟨wv, ew, pw⟩, e3, n1, n2, n3⟩ := id A.ex
    have lwl := pw.length
    have aw := A.at_
    have fw := A.few
    have slen := A.len
    obtain ⟨sv, es, _⟩ := id L1
    have nqs : q ≠ ls := ne_of e0 es (by intro z; cases z)
    have nqw : q ≠ lw := ne_of e0 ew (by intro z; cases z)
    have nks : lpk ≠ ls := fun z => by
      subst z
      rw [es] at epk
      have e := HO.lst.inj (Option.some.inj epk)
      have l1 := L1
      obtain ⟨sv2, es2, ps2⟩ := l1
      rw [es] at es2
      cases es2
      have := ps2.length
      rw [e, List.length_map] at this
      omega
    obtain ⟨bs, hbs⟩ : ∃ bs, bs = ps ++ List.replicate 200 false := ⟨_, rfl⟩
    have lbs : bs.length = ps.length + 200 := by rw [hbs, List.length_append, List.length_replicate]
    refine ow_get (i := 0) e0 rfl owK_pending (lenL ew rfl ⟨_, rfl, by omega, by omega, ?_⟩)
    refine for_range (lo := 0) (n := ((wv.length : Int)).toNat) (fun i σ H' => ∃ x2 x3 x4, σ = [some (.ref q), some (.ref lpk), x2, x3, x4] ∧ But [ls] H H' ∧ Lst DtAt H' ls (fallS D.settled (D.waiting.take i) (bs.take i)))
      ⟨none, none, none, rfl, But.refl _ _, by rw [List.take_zero]; exact L1⟩ ?_ ?_
    · rintro i σ H2 hi ⟨x2, x3, x4, rfl, kk, Ls⟩
      have hi : i < wv.length := by omega
      have hx : wv[i]? = some wv[i] := List.getElem?_eq_getElem hi
      obtain ⟨⟨b, d⟩, hq, w, ⟨a, ea1, ea⟩, hd⟩ := P2.get pw hx
      have bl := aw _ (List.mem_of_getElem? hq)
      dsimp only at bl ea hd
      obtain ⟨bb, hbb⟩ : ∃ bb, bs[i]? = some bb := ⟨_, List.getElem?_eq_getElem (by omega)⟩
      have t2 : TupLe H H2 := kk.tupOf fun b hb => by
        rw [List.mem_singleton] at hb
        subst hb
        exact nt_lst es
      refine ow_get (i := 0) (kk _ _ e0 (ne1 nqs)) rfl owK_pending ⟨_, rfl, ixL (kk _ _ ew (ne1 n1.symm)) (j := i) (by omega) (hx.trans (congrArg some ea1)) ⟨a, _, rfl, SqT.of (t2 _ _ ea), rfl, _, _, rfl, _, _, rfl, rfl, ?_⟩⟩
      refine ⟨_, rfl, lpk, _, rfl, .inl (SqL.of (kk _ _ epk (ne1 nks))), fun c hc => ?_⟩
      generalize gX : upd _ c _ = H3
      have s3 := newS hc gX
      have ec := newE gX
      clear gX
      refine ⟨szle (by show 1 ≤ 100000; decide), fun u hu => ?_⟩
      generalize gX : upd _ u _ = H4
      have s4 := newS hu gX
      have eu := newE gX
      clear gX
      refine ⟨u, 200, _, rfl, rfl, eu, by decide, by decide, szle (by decide), fun r hr => ?_⟩
      have ef : (List.replicate (200 : Int).toNat [V.bl false]).flatten = List.replicate 200 (V.bl false) := rep_flat _ _
      rw [ef]
      generalize gX : upd _ r _ = H5
      have s5 := newS hr gX
      have er := newE gX
      clear gX
      refine ⟨c, r, _, _, rfl, rfl, s5 _ _ (s4 _ _ ec), er, szle (by rw [List.length_map, List.length_replicate]; omega), fun t ht => ?_⟩
      have em : ps.map V.bl ++ List.replicate 200 (V.bl false) = bs.map V.bl := by rw [hbs, List.map_append, List.map_replicate]
      rw [em]
      generalize gX : upd _ t _ = H6
      have s6 := newS ht gX
      have et := newE gX
      clear gX
      have s26 : Same H2 H6 := ((s3.trans s4).trans s5).trans s6
      refine ⟨_, rfl, ixL et (j := i) (by omega) (by rw [List.getElem?_map, hbb]; rfl) ⟨_, rfl, ?_⟩⟩
      have tk := fallS_take D.waiting D.settled bs i (b, d) bb hq hbb
      have kk6 : But [ls] H H6 := kk.trans (But.same s26)
      have L6 := Ls.same DtAt.st s26
      cases bb with
      | false =>
        rw [if_neg (by decide)] at tk
        refine ⟨_, _, _, rfl, kk6, ?_⟩
        rw [tk]
        exact L6
      | true =>
        rw [if_pos rfl] at tk
        obtain ⟨lv, el, pl⟩ := L6
        have fl := fallS_len (D.waiting.take i) D.settled (bs.take i)
        have lvl := pl.length
        refine ⟨_, rfl, ow_get (i := 0) (kk6 _ _ e0 (ne1 nqs)) rfl owK_settled ⟨_, rfl, ls, lv, _, b, rfl, rfl, el, ixN_nat (by omega), ?_⟩⟩
        have t7 : TupLe H6 (upd H6 ls (.lst (lv.set b w))) := (TupLe.refl _).list el
        refine ⟨_, _, _, rfl, kk6.put (by simp), ?_⟩
        rw [tk]
        exact ⟨_, upd_same, P2.set (DtAt.st _ _ _ _ ((t2.trans (TupLe.same s26)).trans t7) hd) b (Paired.tl DtAt.st t7 pl)⟩
    · rintro σ H2 ⟨x2, x3, x4, rfl, kk, Ls⟩
      have en : ((wv.length : Int)).toNat = D.waiting.length := by omega
      have fm := fallS_min D.waiting D.settled bs
      rw [show min D.waiting.length bs.length = D.waiting.length by omega] at fm
      rw [en, fm, hbs, fallS_pad] at Ls
      have t2 : TupLe H H2 := kk.tupOf fun b hb => by
        rw [List.mem_singleton] at hb
        subst hb
        exact nt_lst es
      have e02 := kk _ _ e0 (ne1 nqs)
      obtain ⟨lva, els2, _⟩ := id Ls
      have elp2 := kk _ _ e3 (ne1 n2.symm)
      refine ⟨sz0, fun c hc => ?_⟩
      have nqc : q ≠ c := ne_of_none e02 hc
      have nsc : ls ≠ c := ne_of_none els2 hc
      have npc : lp ≠ c := ne_of_none elp2 hc
      have c0 : H c = none := none_of_but kk hc (ne1 nsc.symm)
      have nqp : q ≠ lp := ne_of e0 e3 (by intro z; cases z)
      generalize gX : upd _ c _ = H3
      have s3 := newS hc gX
      have ec := newE gX
      clear gX
      have e03 := s3 _ _ e02
      refine ⟨_, rfl, q, _, rfl, .inl ⟨_, Sum.inr "pending", e03, rfl, szlt (by show 5 < 100000; decide), rfl⟩, ?_⟩
      rw [owP_pending]
      generalize gX : upd _ q _ = H4
      have b4 := putB gX
      have e4 := newE gX
      have t4 := putT e03 (by intro _ z; cases z) gX
      clear gX
      refine ⟨_, rfl, q, _, rfl, .inl ⟨_, Sum.inr "fallen", e4, rfl, szlt (by show 5 < 100000; decide), rfl⟩, ?_⟩
      rw [owP_fallen]
      generalize gX : upd _ q _ = H5
      have b5 := putB gX
      have e5 := newE gX
      have t5 := putT e4 (by intro _ z; cases z) gX
      clear gX
      have b35 : But [q] H3 H5 := b4.trans b5
      have t35 := t4.trans t5
      refine k H5 [q, ls, c, lp] ⟨⟨ls, c, lp, rfl, e5, (Ls.same DtAt.st s3).keep DtAt.st t35 fun o e => b35 _ _ e (ne1 nqs.symm), ⟨[], b35 _ _ ec (ne1 nqc.symm), .nil⟩, b35 _ _ (s3 _ _ elp2) (ne1 nqp.symm), nsc, n2, npc.symm⟩, by show (fallS D.settled D.waiting ps).length = 600; rw [fallS_len, A.len], Nat.zero_le _, fun p hp => by simp [DiskM.fall] at hp⟩ (((kk.wide (by simp)).trans (But.same s3)).trans (b35.wide (by simp))) ?_
      intro x hx
      simp only [List.mem_cons, List.not_mem_nil, or_false] at hx ⊢
      rcases hx with rfl | rfl | rfl | rfl
      · exact .inl (.inl rfl)
      · exact .inl (.inr (.inl rfl))
      · exact .inr c0
      · exact .inl (.inr (.inr (.inr rfl)))
abbrev N_law_count : List Str := ["_law_own"]
abbrev P_law_count : List Str := ["_law_own"]
def sp_law_count (K : PySem.W.Frag) : Sp := fun vs H Q E => match vs with
  | [ov] => ∃ q G D, ov = .ref q ∧ OwnAt H q G D ∧ D.picks.length ≤ 100 ∧ ∀ H' G', OwnAt H' q G' D.deed.1 → But G H H' → Own G G' H → Q (.bl (!D.deed.2)) H'
  | _ => False
def t_law_count (K : PySem.W.Frag) (E : XK) : TS := (tSeq (tIfS (tB (tDGet (tVar 0) (tC (.str "fallen")))) (tRet (tC (.bl false))) tNext)
  (tSeq (tIfS (tTest (tOpC rEq (tDGet (tVar 0) (tC (.str "left"))) (.int 0))) 
     (tSeq (tDrop (tCall (sp_law_fall K) [] E (tCons (tVar 0) (tCons (tDGet (tVar 0) (tC (.str "picks"))) tNil))))
     (tRet (tC (.bl false)))) tNext)
   (tSeq (tIfS (tTest (tOpC rNotN (tDGet (tVar 0) (tC (.str "left"))) .non)) (sDPut (tVar 0) (tC (.str "left")) (tOpC xSub (tDGet (tVar 0) (tC (.str "left"))) (.int 1))) tNext)
    (tRet (tC (.bl true))))))
theorem pure_law_count {K : PySem.W.Frag} : ∀ vs H Q E, sp_law_count K vs H Q E → t_law_count K E { nx := fun _ H' => Q .non H', rt := Q } (start N_law_count vs) H := by
  intro vs H Q E h
  match vs, h with
  | [ov], h =>
    obtain ⟨q, G, D, rfl, A, pl, k⟩ := h
    obtain ⟨ls, lw, lp, rfl, e0, L1, L2, e3, n1, n2, n3⟩ := id A.ex
    refine ow_get (i := 0) e0 rfl owK_fallen ⟨_, rfl, ?_⟩
    unfold DiskM.deed at k
    cases hd : D.down with
    | true =>
      rw [hd, if_pos rfl] at k
      exact k H _ A (But.refl _ _) (Own.refl _ _)
    | false =>
      rw [hd, if_neg (by decide)] at k
      refine ow_get (i := 0) e0 rfl owK_left ?_
      cases hl : D.left with
      | none =>
        rw [hl] at k
        refine ⟨rfl, _, rfl, ?_⟩
        refine ow_get (i := 0) e0 rfl owK_left ?_
        rw [hl]
        refine ⟨rfl, _, rfl, ?_⟩
        exact k H _ A (But.refl _ _) (Own.refl _ _)
      | some n =>
        rw [hl] at k
        refine ⟨rfl, _, rfl, ?_⟩
        cases n with
        | zero =>
          rw [decide_eq_true (show leftV (some 0) = V.int 0 from rfl)]
          exact ⟨_, rfl, ow_get (i := 0) e0 rfl owK_picks ⟨q, _, D, lp, D.picks, rfl, A, rfl, e3, pl, fun H' G' A' k' o' => k H' G' A' k' o'⟩⟩
        | succ n =>
          rw [decide_eq_false (show ¬ leftV (some (n + 1)) = V.int 0 from fun z => by
            have z : V.int ((n + 1 : Nat) : Int) = V.int 0 := z
            injection z with z
            omega)]
          refine ow_get (i := 0) e0 rfl owK_left ?_
          rw [hl]
          refine ⟨rfl, _, rfl, ?_⟩
          rw [decide_eq_false (show ¬ leftV (some (n + 1)) = V.non from fun z => by cases z)]
          refine ow_get (i := 0) e0 rfl owK_left ?_
          rw [hl]
          refine ⟨_, _, rfl, rfl, _, rfl, q, _, rfl, .inl ⟨_, Sum.inr "left", e0, rfl, szlt (by show 5 < 100000; decide), rfl⟩, ?_⟩
          rw [owP_left]
          obtain ⟨_, es, _⟩ := id L1
          obtain ⟨_, ew, _⟩ := id L2
          have nqs : q ≠ ls := ne_of e0 es (by intro z; cases z)
          have nqw : q ≠ lw := ne_of e0 ew (by intro z; cases z)
          have nqp : q ≠ lp := ne_of e0 e3 (by intro z; cases z)
          generalize gX : upd _ q _ = H1
          have b1 := putB gX
          have e1 := newE gX
          have t1 := putT e0 (by intro _ z; cases z) gX
          clear gX
          refine k H1 _ ⟨⟨ls, lw, lp, rfl, ?_, L1.keep DtAt.st t1 fun o e => b1 _ _ e (ne1 nqs.symm), L2.keep WtAt.st t1 fun o e => b1 _ _ e (ne1 nqw.symm), b1 _ _ e3 (ne1 nqp.symm), n1, n2, n3⟩, A.len, A.few, A.at_⟩ (b1.wide (by simp)) (Own.refl _ _)
          rw [e1]
          show some (HO.dK (ownK ls lw (V.int (((n + 1 : Nat) : Int) - 1)) lp D.down)) = some (HO.dK (ownK ls lw (V.int (n : Int)) lp false))
          rw [hd, show (((n + 1 : Nat) : Int) - 1) = (n : Int) by omega]
end Rs

namespace Rs
open PySem PySem.Spec PyProof.Rows L2
open LamX
abbrev N_law_nest : List Str := ["_law_box", "_law_parts", "_law_deep", "_law_at"]
abbrev P_law_nest : List Str := ["_law_box", "_law_parts", "_law_deep"]
def Neat (n : Nat) (d : Dt) : Prop := d.depth ≤ n ∧ d.slim
theorem Neat.up {n m : Nat} {d : Dt} (h : Neat n d) (l : n ≤ m) : Neat m d := ⟨Nat.le_trans h.1 l, h.2⟩
theorem depthL_all {n : Nat} : ∀ {ds : List Dt}, (∀ d ∈ ds, Neat n d) → Dt.depthL ds ≤ n ∧ Dt.slimL ds
  | [], _ => ⟨by rw [Dt.depthL]; exact Nat.zero_le _, trivial⟩
  | d :: ds, h => by
    obtain ⟨a, b⟩ := h d (List.mem_cons_self ..)
    obtain ⟨c, e⟩ := depthL_all fun x hx => h x (List.mem_cons_of_mem _ hx)
    exact ⟨by rw [Dt.depthL]; omega, b, e⟩
theorem Neat.tup {n : Nat} {ds : List Dt} (h : ∀ d ∈ ds, Neat n d) (l : ds.length ≤ 1000) : Neat (n + 1) (.tup ds) := by
  obtain ⟨a, b⟩ := depthL_all h
  exact ⟨by rw [Dt.depth]; omega, l, b⟩
def spr_law_nest (K : PySem.W.Frag) (n : Nat) : Sp := fun vs H Q E => match vs with
  | [bv, lv, dv] => ∃ a bl l ds, ∃ deep : Nat, bv = .ref a ∧ Box H a bl ∧ lv = .ref l ∧ Lst DtAt H l ds ∧ l ∉ [a, bl] ∧ ds.length ≤ 50 ∧ (∀ d ∈ ds, Neat 0 d) ∧ dv = .int (deep : Int) ∧ deep < n ∧
    ∀ v x H', DtAt H' v x → Neat (deep + 1) x → Box H' a bl → But [a, bl] H H' → Q v H'
  | _ => False
abbrev sp_law_nest (K : PySem.W.Frag) : Sp := spr_law_nest K 5
theorem no_law_nest (K : PySem.W.Frag) : ∀ vs H Q E, ¬ spr_law_nest K 0 vs H Q E := fun vs H Q E h => by
  unfold spr_law_nest at h
  match vs, h with
  | [_, _, _], ⟨_, _, _, _, _, _, _, _, _, _, _, _, _, h1, _⟩ => omega
theorem len_law_nest (K : PySem.W.Frag) : ∀ d vs H Q E, spr_law_nest K d vs H Q E → vs.length = 3 := fun d vs H Q E h => by
  unfold spr_law_nest at h
  match vs, h with
  | [_, _, _], _ => rfl
def t_law_nest (K : PySem.W.Frag) (sp : Sp) (E : XK) : TS := (tSeq (tAsg (tCall (sp_law_take K) [] E (tCons (tVar 0) (tCons (tOpC xAdd (tCB1 (xLen K) (tVar 1)) (.int 1)) tNil))) (gName 3))
  (tSeq (tIfS (tTest (tOpC rEq (tVar 2) (.int 0))) (tRet (tCB1 (xTuple K) (tVar 1))) tNext)
   (tSeq (tIfS (tTest (tOpC rEq (tCall (sp_law_take K) [] E (tCons (tVar 0) (tConsC (.int 3) tNil))) (.int 0))) (tRet (tTup (tCons (tCall sp [] E (tCons (tVar 0) (tCons (tSl (rSlL K) (tVar 1) tNoPart (tPart (tVar 3))) (tCons (tOpC xSub (tVar 2) (.int 1)) tNil)))) (tCons (tTup tNil) (tCons (tCall sp [] E (tCons (tVar 0) (tCons (tSl (rSlL K) (tVar 1) (tPart (tVar 3)) tNoPart) (tCons (tOpC xSub (tVar 2) (.int 1)) tNil)))) tNil))))) tNext)
    (tRet (tOp (rCatA K) (tCB1 (xTuple K) (tSl (rSlL K) (tVar 1) tNoPart (tPart (tVar 3)))) (tTup (tCons (tCall sp [] E (tCons (tVar 0) (tCons (tSl (rSlL K) (tVar 1) (tPart (tVar 3)) tNoPart) (tCons (tOpC xSub (tVar 2) (.int 1)) tNil)))) tNil)))))))
theorem pure_law_nest {K : PySem.W.Frag} (d : Nat) : ∀ vs H Q E, spr_law_nest K (d + 1) vs H Q E → t_law_nest K (spr_law_nest K d) E { nx := fun _ H' => Q .non H', rt := Q } (start N_law_nest vs) H := by
  intro vs H Q E hyp
  unfold spr_law_nest at hyp
  match vs, hyp with
  | [bv, lv, dv], hyp =>
    obtain ⟨a, bl, l, ds, deep, rfl, B, rfl, ⟨pv, el, pp⟩, nl, few, neat, rfl, hd, k⟩ := hyp
    have lp := pp.length
    refine ⟨_, rfl, _, rfl, lenL el rfl ⟨_, _, rfl, rfl, a, bl, _, rfl, rfl, by omega, by omega, B, fun r H1 r0 r1 B1 k1 => ?_⟩⟩
    obtain ⟨j, rfl⟩ : ∃ j : Nat, r = (j : Int) := ⟨r.toNat, by omega⟩
    have hj : j ≤ pv.length := by omega
    have el1 := k1 _ _ el nl
    have pp1 := Paired.tl DtAt.st (B.tup k1) pp
    refine ⟨_, rfl, rfl, _, rfl, ?_⟩
    cases deep with
    | zero =>
      rw [decide_eq_true (show V.int ((0 : Nat) : Int) = V.int 0 from rfl)]
      refine ⟨_, rfl, l, _, rfl, .inl ⟨SqL.of el1, fun t ht => ?_⟩⟩
      generalize gX : upd _ t _ = H2
      have s2 := newS ht gX
      have et := newE gX
      clear gX
      exact k _ (.tup ds) H2 (.tup et (Paired.tl DtAt.st (TupLe.same s2) pp1)) (Neat.tup neat (by omega)) (B1.same s2) (k1.trans (But.same s2))
    | succ deep =>
      rw [decide_eq_false (show ¬ V.int ((deep + 1 : Nat) : Int) = V.int 0 from fun z => by injection z with z; omega)]
      have edeep : ((deep + 1 : Nat) : Int) - 1 = (deep : Int) := by omega
      have neatD : ∀ n, ∀ x ∈ ds.drop n, Neat 0 x := fun n x hx => neat x (List.mem_of_mem_drop hx)
      have neatT : ∀ n, ∀ x ∈ ds.take n, Neat 0 x := fun n x hx => neat x (List.mem_of_mem_take hx)
      refine ⟨_, rfl, a, bl, _, rfl, rfl, by decide, by decide, B1, fun r H2 r0 r1 B2 k2 => ⟨rfl, _, rfl, ?_⟩⟩
      have el2 := k2 _ _ el1 nl
      have pp2 := Paired.tl DtAt.st (B1.tup k2) pp1
      have k02 := k1.trans k2
      by_cases c : V.int r = V.int 0
      · rw [decide_eq_true c]
        refine ⟨_, rfl, _, rfl, _, rfl, _, rfl, l, pv, rfl, SqL.of el2, fun q1 hq1 => ?_⟩
        rw [cut_to hj]
        have nq1 := B2.fresh hq1
        generalize gX : upd _ q1 _ = H3
        have s3 := newS hq1 gX
        have e3 := newE gX
        clear gX
        refine ⟨_, rfl, _, _, rfl, rfl, ?_⟩
        have el3 := s3 _ _ el2
        have pp3 := Paired.tl DtAt.st (TupLe.same s3) pp2
        unfold spr_law_nest
        refine ⟨a, bl, q1, ds.take j, deep, rfl, B2.same s3, rfl, ⟨_, e3, P2.take j pp3⟩, nq1, by rw [List.length_take]; omega, neatT j, by rw [← edeep], by omega, fun v1 x1 H4 hv1 nx1 B4 k4 => ?_⟩
        refine ⟨sz0, fun q2 hq2 => ?_⟩
        have el4 := k4 _ _ el3 nl
        have pp4 := Paired.tl DtAt.st ((B2.same s3).tup k4) pp3
        generalize gX : upd _ q2 _ = H5
        have s5 := newS hq2 gX
        have e5 := newE gX
        clear gX
        refine ⟨_, rfl, _, rfl, _, rfl, _, rfl, l, pv, rfl, SqL.of (s5 _ _ el4), fun q3 hq3 => ?_⟩
        rw [cut_from hj]
        have nq3 := (B4.same s5).fresh hq3
        generalize gX : upd _ q3 _ = H6
        have s6 := newS hq3 gX
        have e6 := newE gX
        clear gX
        refine ⟨_, rfl, _, _, rfl, rfl, ?_⟩
        refine ⟨a, bl, q3, ds.drop j, deep, rfl, (B4.same s5).same s6, rfl, ⟨_, e6, P2.drop j (Paired.tl DtAt.st (TupLe.same (s5.trans s6)) pp4)⟩, nq3, by rw [List.length_drop]; omega, neatD j, by rw [← edeep], by omega, fun v2 x2 H7 hv2 nx2 B7 k7 => ?_⟩
        refine ⟨szle (by show 3 ≤ 100000; decide), fun t ht => ?_⟩
        have t57 : TupLe H5 H7 := (TupLe.same s6).trans (((B4.same s5).same s6).tup k7)
        have hv17 := DtAt.st _ _ _ _ ((TupLe.same s5).trans t57) hv1
        have e57 := t57 _ _ e5
        generalize gX : upd _ t _ = H8
        have s8 := newS ht gX
        have e8 := newE gX
        clear gX
        have t8 := TupLe.same s8
        have k48 : But [a, bl] H4 H8 := ((But.same (s5.trans s6)).trans k7).trans (But.same s8)
        refine k _ (.tup [x1, .tup [], x2]) H8 (.tup e8 (.cons (DtAt.st _ _ _ _ t8 hv17) (.cons (.tup (t8 _ _ e57) .nil) (.cons (DtAt.st _ _ _ _ t8 hv2) .nil)))) (Neat.tup (fun x hx => ?_) (by show 3 ≤ 1000; decide)) (B7.same s8) (((k02.trans (But.same s3)).trans k4).trans k48)
        simp only [List.mem_cons, List.not_mem_nil, or_false] at hx
        rcases hx with rfl | rfl | rfl
        · exact nx1
        · exact (Neat.tup (n := 0) (fun _ h => by simp at h) (Nat.zero_le _)).up (by omega)
        · exact nx2
      · rw [decide_eq_false c]
        refine ⟨_, rfl, _, rfl, _, rfl, l, pv, rfl, SqL.of el2, fun q1 hq1 => ?_⟩
        rw [cut_to hj]
        generalize gX : upd _ q1 _ = H3
        have s3 := newS hq1 gX
        have e3 := newE gX
        clear gX
        refine ⟨q1, _, rfl, .inl ⟨SqL.of e3, fun t ht => ?_⟩⟩
        generalize gX : upd _ t _ = H4
        have s4 := newS ht gX
        have e4 := newE gX
        clear gX
        have s24 := s3.trans s4
        have el4 := s24 _ _ el2
        have pp4 := Paired.tl DtAt.st (TupLe.same s24) pp2
        have B4 := B2.same s24
        refine ⟨_, rfl, _, rfl, _, rfl, _, rfl, l, pv, rfl, SqL.of el4, fun q3 hq3 => ?_⟩
        rw [cut_from hj]
        have nq3 := B4.fresh hq3
        generalize gX : upd _ q3 _ = H5
        have s5 := newS hq3 gX
        have e5 := newE gX
        clear gX
        refine ⟨_, rfl, _, _, rfl, rfl, ?_⟩
        unfold spr_law_nest
        refine ⟨a, bl, q3, ds.drop j, deep, rfl, B4.same s5, rfl, ⟨_, e5, P2.drop j (Paired.tl DtAt.st (TupLe.same s5) pp4)⟩, nq3, by rw [List.length_drop]; omega, neatD j, by rw [← edeep], by omega, fun v2 x2 H6 hv2 nx2 B6 k6 => ?_⟩
        refine ⟨szle (by show 1 ≤ 100000; decide), fun u hu => ?_⟩
        have t46 : TupLe H4 H6 := (TupLe.same s5).trans ((B4.same s5).tup k6)
        have e46 := t46 _ _ e4
        have pp6 := Paired.tl DtAt.st t46 pp4
        generalize gX : upd _ u _ = H7
        have s7 := newS hu gX
        have e7 := newE gX
        clear gX
        have t7 := TupLe.same s7
        have k27 : But [a, bl] H2 H7 := ((But.same (s24.trans s5)).trans k6).trans (But.same s7)
        have pT := P2.take j (Paired.tl DtAt.st t7 pp6)
        have hv7 := DtAt.st _ _ _ _ t7 hv2
        have nT : ∀ x ∈ ds.take j ++ [x2], Neat (deep + 1) x := fun x hx => by
          rcases List.mem_append.mp hx with z | z
          · exact (neatT j x z).up (by omega)
          · rw [List.mem_singleton.mp z]
            exact nx2
        have lT : (pv.take j).length = (ds.take j).length := pT.length
        refine ⟨t, u, _, _, rfl, rfl, SqT.of (t7 _ _ e46), SqT.of e7, szle (by rw [List.length_take]; show _ + 1 ≤ 100000; omega), fun z => ?_, fun _ z => (by cases z), fun _ _ p hp => ?_⟩
        · have z2 : ds.take j = [] := List.eq_nil_of_length_eq_zero (by rw [← lT, z]; rfl)
          rw [z2] at nT
          exact k _ (.tup [x2]) H7 (.tup e7 (.cons hv7 .nil)) (Neat.tup nT (by show 1 ≤ 1000; decide)) (B6.same s7) (k02.trans k27)
        · generalize gX : upd _ p _ = H8
          have s8 := newS hp gX
          have e8 := newE gX
          clear gX
          have t8 := TupLe.same s8
          exact k _ (.tup (ds.take j ++ [x2])) H8 (DtAt.tup e8 (P2.app (Paired.tl DtAt.st t8 pT) (P2.one (DtAt.st _ _ _ _ t8 hv7)))) (Neat.tup nT (by rw [List.length_append, List.length_take, List.length_singleton]; omega)) ((B6.same s7).same s8) ((k02.trans k27).trans (But.same s8))
end Rs

namespace Rs
open PySem PySem.Spec PyProof.Rows L2
open LamX
abbrev N_law_what : List Str := ["_law_box", "_law_way", "_law_some", "_law_parts", "_law_k"]
abbrev P_law_what : List Str := ["_law_box"]
def sp_law_what (K : PySem.W.Frag) : Sp := fun vs H Q E => match vs with
  | [bv] => ∃ a bl, bv = .ref a ∧ Box H a bl ∧ ∀ v x H', DtAt H' v x → Neat 5 x → Box H' a bl → But [a, bl] H H' → Q v H'
  | _ => False
def t_law_what (K : PySem.W.Frag) (E : XK) : TS := (tSeq (tAsg (tCall (sp_law_take K) [] E (tCons (tVar 0) (tConsC (.int 6) tNil))) (gName 1))
  (tSeq (tIfS (tTest (tOpC rEq (tVar 1) (.int 5))) 
     (tSeq (tAsg (tLst (tCons (tCall (sp_law_take K) [] E (tCons (tVar 0) (tConsC (.int 9) tNil))) (tConsC (.str "text") (tConsC .non (tConsC (.bl true) tNil))))) (gName 2))
     (tSeq (tAsg (tLc (iRng1 (tCons (tOpD xAdd (.int 36) (tCall (sp_law_take K) [] E (tCons (tVar 0) (tConsC (.int 8) tNil)))) tNil)) (gName 4) tYes (tOp (rIxL K) (tVar 2) (tCall (sp_law_take K) [] E0 (tCons (tVar 0) (tConsC (.int 4) tNil)))) [4]) (gName 3))
      (tRet (tCall (sp_law_nest K) [] E (tCons (tVar 0) (tCons (tVar 3) (tCons (tCall (sp_law_take K) [] E (tCons (tVar 0) (tConsC (.int 4) tNil))) tNil))))))) tNext)
   (tSeq (tAsg (tLst (tConsC .non (tCons (tCall (sp_law_take K) [] E (tCons (tVar 0) (tConsC (.int 100) tNil))) (tCons (tTup (tConsC (.str "a") (tCons (tTup (tConsC (.int 1) (tCons (tCall (sp_law_take K) [] E (tCons (tVar 0) (tConsC (.int 9) tNil))) (tConsC .non tNil)))) tNil))) (tConsC (.str "text") (tCons (tTup (tCons (tTup tNil) (tCons (tTup (tConsC (.bl true) (tCons (tTup (tCons (tTup (tConsC (.int 2) tNil)) tNil)) tNil))) tNil))) tNil)))))) (gName 2))
    (tRet (tOp (rIxL K) (tVar 2) (tVar 1))))))
theorem neat0 {d : Dt} (h : ∀ ds, d ≠ .tup ds) : Neat 0 d := by
  cases d with
  | tup ds => exact (h ds rfl).elim
  | _ => exact ⟨Nat.le_refl _, trivial⟩
theorem pure_law_what {K : PySem.W.Frag} : ∀ vs H Q E, sp_law_what K vs H Q E → t_law_what K E { nx := fun _ H' => Q .non H', rt := Q } (start N_law_what vs) H := by
  intro vs H Q E h
  match vs, h with
  | [bv], h =>
    obtain ⟨a, bl, rfl, B, k⟩ := h
    refine ⟨_, rfl, a, bl, _, rfl, rfl, by decide, by decide, B, fun w H1 w0 w1 B1 k1 => ?_⟩
    refine ⟨_, rfl, rfl, _, rfl, ?_⟩
    by_cases c : V.int w = V.int 5
    · rw [decide_eq_true c]
      refine ⟨_, rfl, a, bl, _, rfl, rfl, by decide, by decide, B1, fun r H2 r0 r1 B2 k2 => ⟨szle (by show 4 ≤ 100000; decide), fun q hq => ?_⟩⟩
      have nq := B2.fresh hq
      generalize gX : upd _ q _ = H3
      have s3 := newS hq gX
      have e3 := newE gX
      clear gX
      refine ⟨_, rfl, a, bl, _, rfl, rfl, by decide, by decide, B2.same s3, fun m H4 m0 m1 B4 k4 => ⟨_, _, rfl, rfl, _, rfl, by omega, by omega, fun D hD => ?_⟩⟩
      have e4 := k4 _ _ e3 nq
      have nD := B4.fresh hD
      have nqD := ne_of_none e4 hD
      refine lc_range (lo := 0) (n := (36 + m).toNat) (fun i H' => ∃ vs ds, H' D = some (.lst vs) ∧ Paired (DtAt H') vs ds ∧ ds.length = i ∧ (∀ d ∈ ds, Neat 0 d) ∧ H' q = some (.lst [.int r, .str "text", .non, .bl true]) ∧ Box H' a bl ∧ But [a, bl] H4 H')
        ⟨[], [], upd_same, .nil, rfl, fun _ h => by simp at h, up e4 nqD, B4.same (Rs.Same.new hD), But.same (Rs.Same.new hD)⟩ ?_ ?_
      · rintro i H' hi ⟨vs, ds, hd, pp, hl, nt, eq, B', k'⟩
        refine ⟨rfl, ?_⟩
        refine lc_yes ⟨_, rfl, _, rfl, a, bl, _, rfl, rfl, by decide, by decide, B', fun g H5 g0 g1 B5 k5 => ?_⟩
        have hd5 := k5 _ _ hd nD
        have eq5 := k5 _ _ eq nq
        have pp5 := Paired.tl DtAt.st (B'.tup k5) pp
        have lpp := pp.length
        have fin : ∀ v x, DtAt H5 v x → Neat 0 x → ∃ acc, H5 D = some (.lst acc) ∧ acc.length < sizeLine ∧ ∃ vs ds, upd H5 D (.lst (acc ++ [v])) D = some (.lst vs) ∧ Paired (DtAt (upd H5 D (.lst (acc ++ [v])))) vs ds ∧ ds.length = i + 1 ∧ (∀ d ∈ ds, Neat 0 d) ∧ upd H5 D (.lst (acc ++ [v])) q = some (.lst [.int r, .str "text", .non, .bl true]) ∧ Box (upd H5 D (.lst (acc ++ [v]))) a bl ∧ But [a, bl] H4 (upd H5 D (.lst (acc ++ [v]))) := fun v x hv nx => by
          have t6 : TupLe H5 (upd H5 D (.lst (vs ++ [v]))) := (TupLe.refl _).list hd5
          obtain ⟨ns, st, ha, hl2, _⟩ := id B5.ex
          refine ⟨vs, hd5, szlt (by omega), vs ++ [v], ds ++ [x], upd_same, P2.app (Paired.tl DtAt.st t6 pp5) (P2.one (DtAt.st _ _ _ _ t6 hv)), by rw [List.length_append, hl]; rfl, fun d hx => ?_, up eq5 nqD, B5.keep (fun o e => up e fun z => nD (by rw [← z]; simp)) (fun o e => up e fun z => nD (by rw [← z]; simp)), (k'.trans k5).mut hD⟩
          rcases List.mem_append.mp hx with z | z
          · exact nt d z
          · rw [List.mem_singleton.mp z]
            exact nx
        obtain rfl | rfl | rfl | rfl : g = 0 ∨ g = 1 ∨ g = 2 ∨ g = 3 := by omega
        · exact ixL eq5 (j := 0) rfl rfl (fin _ (.int r) (.int r) (neat0 fun _ => nofun))
        · exact ixL eq5 (j := 1) rfl rfl (fin _ (.str "text") (.str _) (neat0 fun _ => nofun))
        · exact ixL eq5 (j := 2) rfl rfl (fin _ .non .non (neat0 fun _ => nofun))
        · exact ixL eq5 (j := 3) rfl rfl (fin _ (.bool true) (.bool true) (neat0 fun _ => nofun))
      · rintro H' ⟨vs, ds, hd, pp, hl, nt, eq, B', k'⟩
        refine ⟨_, rfl, _, rfl, _, rfl, a, bl, _, rfl, rfl, by decide, by decide, B', fun g H5 g0 g1 B5 k5 => ?_⟩
        have hd5 := k5 _ _ hd nD
        refine ⟨a, bl, D, ds, g.toNat, rfl, B5, rfl, ⟨vs, hd5, Paired.tl DtAt.st (B'.tup k5) pp⟩, nD, by omega, nt, by rw [show ((g.toNat : Nat) : Int) = g by omega], by omega, fun v x H6 hv nx B6 k6 => ?_⟩
        exact k v x H6 hv (nx.up (by omega)) B6 ((((((k1.trans k2).trans (But.same s3)).trans k4).trans k').trans k5).trans k6)
    · rw [decide_eq_false c]
      refine ⟨_, rfl, a, bl, _, rfl, rfl, by decide, by decide, B1, fun r H2 r0 r1 B2 k2 => ?_⟩
      refine ⟨_, rfl, a, bl, _, rfl, rfl, by decide, by decide, B2, fun m H3 m0 m1 B3 k3 => ?_⟩
      refine ⟨szle (by show 3 ≤ 100000; decide), fun p1 h1 => ?_⟩
      generalize gX : upd _ p1 _ = H4
      have s4 := newS h1 gX
      have e4 := newE gX
      clear gX
      refine ⟨szle (by show 2 ≤ 100000; decide), fun p2 h2 => ?_⟩
      generalize gX : upd _ p2 _ = H5
      have s5 := newS h2 gX
      have e5 := newE gX
      clear gX
      refine ⟨sz0, fun p3 h3 => ?_⟩
      generalize gX : upd _ p3 _ = H6
      have s6 := newS h3 gX
      have e6 := newE gX
      clear gX
      refine ⟨szle (by show 1 ≤ 100000; decide), fun p4 h4 => ?_⟩
      generalize gX : upd _ p4 _ = H7
      have s7 := newS h4 gX
      have e7 := newE gX
      clear gX
      refine ⟨szle (by show 1 ≤ 100000; decide), fun p5 h5 => ?_⟩
      generalize gX : upd _ p5 _ = H8
      have s8 := newS h5 gX
      have e8 := newE gX
      clear gX
      refine ⟨szle (by show 2 ≤ 100000; decide), fun p6 h6 => ?_⟩
      generalize gX : upd _ p6 _ = H9
      have s9 := newS h6 gX
      have e9 := newE gX
      clear gX
      refine ⟨szle (by show 2 ≤ 100000; decide), fun p7 h7 => ?_⟩
      generalize gX : upd _ p7 _ = HA
      have sA := newS h7 gX
      have eA := newE gX
      clear gX
      refine ⟨szle (by show 5 ≤ 100000; decide), fun q hq => ?_⟩
      generalize gX : upd _ q _ = HB
      have sB := newS hq gX
      have eB := newE gX
      clear gX
      have s39 : Same H3 HB := (((((((s4.trans s5).trans s6).trans s7).trans s8).trans s9).trans sA).trans sB)
      have k0 : But [a, bl] H HB := ((k1.trans k2).trans k3).trans (But.same s39)
      have BB := B3.same s39
      refine ⟨_, rfl, _, rfl, ?_⟩
      have sc : ∀ {n : Nat} {z : Dt}, (∀ ds, z ≠ .tup ds) → Neat n z := fun h => (neat0 h).up (Nat.zero_le _)
      have w5 : w ≠ 5 := fun z => c (by rw [z])
      obtain rfl | rfl | rfl | rfl | rfl : w = 0 ∨ w = 1 ∨ w = 2 ∨ w = 3 ∨ w = 4 := by omega
      · exact ixL eB (j := 0) rfl rfl (k _ .non HB .non (sc fun _ => nofun) BB k0)
      · exact ixL eB (j := 1) rfl rfl (k _ (.int r) HB (.int r) (sc fun _ => nofun) BB k0)
      · have q1 := sB _ _ (sA _ _ (s9 _ _ (s8 _ _ (s7 _ _ (s6 _ _ (s5 _ _ e4))))))
        have q2 := sB _ _ (sA _ _ (s9 _ _ (s8 _ _ (s7 _ _ (s6 _ _ e5)))))
        have n1 : Neat 1 (.tup [.int 1, .int m, .non]) := Neat.tup (fun x hx => by
          simp only [List.mem_cons, List.not_mem_nil, or_false] at hx
          rcases hx with rfl | rfl | rfl <;> exact sc fun _ => nofun) (by show 3 ≤ 1000; decide)
        refine ixL eB (j := 2) rfl rfl (k _ (.tup [.str "a", .tup [.int 1, .int m, .non]]) HB (.tup q2 (.cons (.str _) (.cons (.tup q1 (.cons (.int _) (.cons (.int _) (.cons .non .nil)))) .nil))) ((Neat.tup (n := 1) (fun x hx => ?_) (by show 2 ≤ 1000; decide)).up (by decide)) BB k0)
        simp only [List.mem_cons, List.not_mem_nil, or_false] at hx
        rcases hx with rfl | rfl
        · exact sc fun _ => nofun
        · exact n1
      · exact ixL eB (j := 3) rfl rfl (k _ (.str "text") HB (.str _) (sc fun _ => nofun) BB k0)
      · have q3 := sB _ _ (sA _ _ (s9 _ _ (s8 _ _ (s7 _ _ e6))))
        have q4 := sB _ _ (sA _ _ (s9 _ _ (s8 _ _ e7)))
        have q5 := sB _ _ (sA _ _ (s9 _ _ e8))
        have q6 := sB _ _ (sA _ _ e9)
        have q7 := sB _ _ eA
        have n4 : Neat 1 (.tup [.int 2]) := Neat.tup (fun x hx => by
          rw [List.mem_singleton] at hx
          subst hx
          exact sc fun _ => nofun) (by show 1 ≤ 1000; decide)
        have n5 : Neat 2 (.tup [.tup [.int 2]]) := Neat.tup (fun x hx => by
          rw [List.mem_singleton] at hx
          subst hx
          exact n4) (by show 1 ≤ 1000; decide)
        have n6 : Neat 3 (.tup [.bool true, .tup [.tup [.int 2]]]) := Neat.tup (fun x hx => by
          simp only [List.mem_cons, List.not_mem_nil, or_false] at hx
          rcases hx with rfl | rfl
          · exact sc fun _ => nofun
          · exact n5) (by show 2 ≤ 1000; decide)
        refine ixL eB (j := 4) rfl rfl (k _ (.tup [.tup [], .tup [.bool true, .tup [.tup [.int 2]]]]) HB (.tup q7 (.cons (.tup q3 .nil) (.cons (.tup q6 (.cons (.bool _) (.cons (.tup q5 (.cons (.tup q4 (.cons (.int _) .nil)) .nil)) .nil))) .nil))) ((Neat.tup (n := 3) (fun x hx => ?_) (by show 2 ≤ 1000; decide)).up (by decide)) BB k0)
        simp only [List.mem_cons, List.not_mem_nil, or_false] at hx
        rcases hx with rfl | rfl
        · exact (Neat.tup (n := 0) (fun _ h => by simp at h) (Nat.zero_le _)).up (by decide)
        · exact n6
end Rs

namespace Rs
open PySem PySem.Spec PyProof.Rows L2
open LamX
mutual
def Dt.py : Dt → PyData
  | .int n => .int n
  | .str s => .str s
  | .bool b => .bool b
  | .non => .none
  | .tup ds => .tuple (Dt.pyL ds)
def Dt.pyL : List Dt → List PyData
  | [] => []
  | d :: ds => d.py :: Dt.pyL ds
end
theorem pyL_map : ∀ ds : List Dt, Dt.pyL ds = ds.map Dt.py
  | [] => rfl
  | d :: ds => by rw [Dt.pyL, pyL_map ds]; rfl
mutual
theorem Dt.dp {K : PySem.W.Frag} {H : Hp} : ∀ (d : Dt) (v : V), DtA H v d → Dp K H v d.py
  | .int n, _, h => by cases h; exact .int n
  | .str n, _, h => by cases h; exact .str n
  | .bool n, _, h => by cases h; exact .bl n
  | .non, _, h => by cases h; exact .non
  | .tup ds, _, h => by
    cases h with
    | tup e a => exact .tup (SqT.of e) (Dt.dpL ds _ a)
theorem Dt.dpL {K : PySem.W.Frag} {H : Hp} : ∀ (ds : List Dt) (vs : List V), DtAll H vs ds → DpAll K H vs (Dt.pyL ds)
  | [], _, h => by cases h; exact .nil
  | d :: ds, _, h => by
    cases h with
    | cons a b => exact .cons (Dt.dp d _ a) (Dt.dpL ds _ b)
end
mutual
theorem Dt.okA : ∀ (d : Dt) (n : Nat), Neat n d → Rs.okA (n + 1) d.py
  | .int _, _, _ => trivial
  | .str _, _, _ => trivial
  | .bool _, _, _ => trivial
  | .non, _, _ => trivial
  | .tup ds, n, h => by
    obtain ⟨h1, h2, h3⟩ := h
    rw [Dt.depth] at h1
    cases n with
    | zero => omega
    | succ n => exact ⟨by rw [pyL_map, List.length_map]; omega, Dt.okL ds n (by omega) h3⟩
theorem Dt.okL : ∀ (ds : List Dt) (n : Nat), Dt.depthL ds ≤ n → Dt.slimL ds → ∀ y ∈ Dt.pyL ds, Rs.okA (n + 1) y
  | [], _, _, _ => fun y hy => by rw [Dt.pyL] at hy; simp at hy
  | d :: ds, n, h, s => fun y hy => by
    rw [Dt.depthL] at h
    rw [Dt.slimL] at s
    rw [Dt.pyL] at hy
    rcases List.mem_cons.mp hy with e | e
    · rw [e]
      exact Dt.okA d n ⟨by omega, s.1⟩
    · exact Dt.okL ds n (by omega) s.2 y e
end
def errD (x : Str) : PyData := .tuple [.str x, .int 0]
theorem errD_ok (x : Str) : Rs.okA 2 (errD x) := ⟨by show 2 ≤ 100000; decide, fun d hd => by
  simp only [List.mem_cons, List.not_mem_nil, or_false] at hd
  rcases hd with rfl | rfl <;> exact trivial⟩
theorem errD_dp {K : PySem.W.Frag} {H : Hp} {t : Addr} {x : Str} (e : H t = some (.tup [.str x, .int 0])) : Dp K H (.ref t) (errD x) := .tup (SqT.of e) (.cons (.str _) (.cons (.int _) .nil))
def ButN (F : List Addr) (H H' : Hp) : Prop := ∀ x u, H x = some u → (∀ ps, u ≠ .tbl ps) → x ∉ F → H' x = some u
theorem ButN.of {F : List Addr} {H H' : Hp} (k : But F H H') : ButN F H H' := fun x u e _ n => k x u e n
theorem ButN.ext {F : List Addr} {H H' : Hp} (k : ExtN H H') : ButN F H H' := fun x u e n _ => k x u e n
theorem ButN.trans {F : List Addr} {H H1 H2 : Hp} (a : ButN F H H1) (b : ButN F H1 H2) : ButN F H H2 := fun x u e n m => b x u (a x u e n m) n m
theorem ButN.wide {F F' : List Addr} {H H' : Hp} (k : ButN F H H') (s : ∀ x ∈ F, x ∈ F') : ButN F' H H' := fun x u e n m => k x u e n fun z => m (s x z)
def Free (F : List Addr) (H : Hp) : Prop := ∀ x ∈ F, ∀ u, H x = some u → (∀ ps, u ≠ .tbl ps) ∧ ∀ c q, u ≠ CodeO c q
theorem tabs_but {T : List (Addr × Str)} {F : List Addr} {H H' : Hp} (t : Tabs T H) (k : But F H H') (f : Free F H) : Tabs T H' := fun p hp => by
  obtain ⟨ps, h1, h2, h3⟩ := t p hp
  refine ⟨ps, k _ _ h1 fun z => (f _ z _ h1).1 ps rfl, h2, fun pos cv hc => ?_⟩
  obtain ⟨c, e1, e2⟩ := h3 pos cv hc
  exact ⟨c, e1, k _ _ e2 fun z => (f _ z _ e2).2 _ _ rfl⟩
theorem tabs_same {T : List (Addr × Str)} {H H' : Hp} (t : Tabs T H) (s : Same H H') : Tabs T H' := t.ext s
theorem free_lst {vs : List V} : (∀ ps, HO.lst vs ≠ .tbl ps) ∧ ∀ c q, HO.lst vs ≠ CodeO c q := ⟨fun _ z => (by cases z), fun _ _ z => (by unfold CodeO at z; cases z)⟩
theorem free_dk {vs : List (Key × V)} : (∀ ps, HO.dK vs ≠ .tbl ps) ∧ ∀ c q, HO.dK vs ≠ CodeO c q := ⟨fun _ z => (by cases z), fun _ _ z => (by unfold CodeO at z; cases z)⟩
theorem free_ins {C d : Addr} {fs : List (Str × V)} : (∀ ps, HO.ins C d fs ≠ .tbl ps) ∧ ∀ c q, HO.ins C d fs ≠ CodeO c q := ⟨fun _ z => (by cases z), fun _ _ z => (by unfold CodeO at z; cases z)⟩
section
variable {K : PySem.W.Frag} {H H' : Hp} {p q a bl : Addr} {F G : List Addr} {D : DiskM}
theorem DiskAt.free (h : DiskAt K H p F D) : Free F H := fun x hx u e => by
  obtain ⟨ls, lw, lp, rfl, ⟨dx, ob⟩, ⟨_, e1, _⟩, ⟨_, e2, _⟩, e3, _⟩ := h.ex
  simp only [List.mem_cons, List.not_mem_nil, or_false] at hx
  rcases hx with rfl | rfl | rfl | rfl
  · rw [ob] at e; cases e; exact free_ins
  · rw [e1] at e; cases e; exact free_lst
  · rw [e2] at e; cases e; exact free_lst
  · rw [e3] at e; cases e; exact free_lst
theorem OwnAt.free (h : OwnAt H q G D) : Free G H := fun x hx u e => by
  obtain ⟨ls, lw, lp, rfl, e0, ⟨_, e1, _⟩, ⟨_, e2, _⟩, e3, _⟩ := h.ex
  simp only [List.mem_cons, List.not_mem_nil, or_false] at hx
  rcases hx with rfl | rfl | rfl | rfl
  · rw [e0] at e; cases e; exact free_dk
  · rw [e1] at e; cases e; exact free_lst
  · rw [e2] at e; cases e; exact free_lst
  · rw [e3] at e; cases e; exact free_lst
theorem Box.free (h : Box H a bl) : Free [a, bl] H := fun x hx u e => by
  obtain ⟨ns, st, e1, e2, _⟩ := h.ex
  simp only [List.mem_cons, List.not_mem_nil, or_false] at hx
  rcases hx with rfl | rfl
  · rw [e1] at e; cases e; exact free_lst
  · rw [e2] at e; cases e; exact free_lst
theorem ButN.tup (k : ButN F H H') (n : ∀ x ∈ F, ∀ vs, H x ≠ some (.tup vs)) : TupLe H H' := fun c xs e => k c _ e (fun _ z => by cases z) fun z => n c z xs e
theorem DiskAt.keepN {Z : List Addr} (h : DiskAt K H p F D) (t : TupLe H H') (k : ButN Z H H') (n : ∀ x ∈ F, x ∉ Z) : DiskAt K H' p F D := h.keep t fun x o hx e => k x o e (h.free x hx o e).1 (n x hx)
theorem OwnAt.keepN {Z : List Addr} (h : OwnAt H q G D) (t : TupLe H H') (k : ButN Z H H') (n : ∀ x ∈ G, x ∉ Z) : OwnAt H' q G D := h.keep t fun x o hx e => k x o e (h.free x hx o e).1 (n x hx)
theorem Box.keepN {Z : List Addr} (h : Box H a bl) (k : ButN Z H H') (n : ∀ x ∈ [a, bl], x ∉ Z) : Box H' a bl := h.keep (fun o e => k a o e (h.free a (by simp) o e).1 (n a (by simp))) fun o e => k bl o e (h.free bl (by simp) o e).1 (n bl (by simp))
end
theorem extN_tup {H H' : Hp} (k : ExtN H H') : TupLe H H' := fun c xs e => k c _ e fun _ z => by cases z
end Rs

namespace Rs
open PySem PySem.Spec PyProof.Rows L2
open LamX
structure SideAt (K : PySem.W.Frag) (H : Hp) (p q : Addr) (F G : List Addr) (D : DiskM) : Prop where
  disk : DiskAt K H p F D
  own : OwnAt H q G D
  dis : ∀ x ∈ F, x ∉ G
  neatS : ∀ d ∈ D.settled, Neat 5 d
  neatW : ∀ w ∈ D.waiting, Neat 5 w.2
  picks : D.picks.length ≤ 100
theorem SideAt.keepN {K : PySem.W.Frag} {H H' : Hp} {p q : Addr} {F G Z : List Addr} {D : DiskM} (h : SideAt K H p q F G D) (t : TupLe H H') (k : ButN Z H H') (nF : ∀ x ∈ F, x ∉ Z) (nG : ∀ x ∈ G, x ∉ Z) : SideAt K H' p q F G D :=
  ⟨h.disk.keepN t k nF, h.own.keepN t k nG, h.dis, h.neatS, h.neatW, h.picks⟩
theorem told_by {K : PySem.W.Frag} {T : List (Addr × Str)} {H : Hp} {Q : VK} {σ : L2.St} {t : XK → TE} (hT : Tabs T H) (k : ∀ H1, ExtN H H1 → Tabs T H1 → t (fun cls d H' => rErr K cls d H' Q) σ H1 Q) : tLam T (TTold K) t σ H Q := ⟨hT, k⟩
theorem rErr_plain {K : PySem.W.Frag} {x : Str} {H : Hp} {Q : VK} (E : ErrIs K x) (hx : ¬ (x = "BadRuns" ∨ x = "BadRows" ∨ x = "BadText")) (k : ∀ u H', H u = none → Same H H' → H' u = some (.tup [.str x, .int 0]) → Q (.ref u) H') : rErr K (.ref (He.ga K x)) none H Q :=
  ⟨x, .int 0, rfl, E, by unfold ErrNo; rw [if_neg hx]; exact ⟨rfl, rfl⟩, fun u H' hu s e => k u H' hu (fun b o q => s b o q) e⟩
theorem alike_err {K : PySem.W.Frag} {H : Hp} {x : Str} {t u : Addr} {Q : VK} {E : XK} (e1 : H t = some (.tup [.str x, .int 0])) (e2 : H u = some (.tup [.str x, .int 0])) (k : Q (.bl true) H) : sp_law_alike K [.ref t, .ref u] H Q E :=
  ⟨errD x, (errD_ok x).to (by decide), errD_dp e1, errD_dp e2, k⟩
theorem alike_non {K : PySem.W.Frag} {H : Hp} {Q : VK} {E : XK} (k : Q (.bl true) H) : sp_law_alike K [.non, .non] H Q E := ⟨.none, trivial, .non, .non, k⟩
theorem alike_dt {K : PySem.W.Frag} {H : Hp} {v w : V} {d : Dt} {Q : VK} {E : XK} (n : Neat 5 d) (e1 : DtAt H v d) (e2 : DtAt H w d) (k : Q (.bl true) H) : sp_law_alike K [v, w] H Q E :=
  ⟨d.py, (Dt.okA d 5 n).to (by decide), Dt.dp d v e1, Dt.dp d w e2, k⟩
def OwnN (F F' : List Addr) (H : Hp) : Prop := ∀ x ∈ F', x ∈ F ∨ ∀ u, H x = some u → ∃ ps, u = HO.tbl ps
theorem OwnN.of {Z F F' : List Addr} {H H1 : Hp} (o : Own F F' H1) (k : ButN Z H H1) (th : ∀ x ∈ Z, ∃ u, H1 x = some u) : OwnN F F' H := fun x hx => (o x hx).imp id fun e u hu => by
  by_cases c : ∃ ps, u = HO.tbl ps
  · exact c
  · by_cases m : x ∈ Z
    · obtain ⟨v, hv⟩ := th x m
      rw [e] at hv
      cases hv
    · have := k x u hu (fun ps z => c ⟨ps, z⟩) m
      rw [e] at this
      cases this
theorem OwnN.from_ {Z F F' : List Addr} {H H1 : Hp} (o : OwnN F F' H1) (k : ButN Z H H1) (th : ∀ x ∈ Z, ∃ u, H1 x = some u ∧ ∀ ps, u ≠ .tbl ps) : OwnN F F' H := fun x hx => (o x hx).imp id fun e u hu => by
  by_cases c : ∃ ps, u = HO.tbl ps
  · exact c
  · by_cases m : x ∈ Z
    · obtain ⟨v, hv, nv⟩ := th x m
      obtain ⟨ps, z⟩ := e v hv
      exact (nv ps z).elim
    · exact e u (k x u hu (fun ps z => c ⟨ps, z⟩) m)
theorem OwnN.refl (F : List Addr) (H : Hp) : OwnN F F H := fun _ h => .inl h
theorem OwnN.wideL {F F' G : List Addr} {H : Hp} (o : OwnN F G H) (s : ∀ x ∈ F, x ∈ F') : OwnN F' G H := fun x hx => (o x hx).imp (s x) id
theorem OwnN.out {F F' G : List Addr} {H : Hp} (o : OwnN F F' H) (f : Free G H) (th : ∀ x ∈ G, ∃ u, H x = some u) (d : ∀ x ∈ F, x ∉ G) : ∀ x ∈ F', x ∉ G := fun x hx m => by
  rcases o x hx with z | z
  · exact d x z m
  · obtain ⟨u, hu⟩ := th x m
    obtain ⟨ps, e⟩ := z u hu
    exact (f x m u hu).1 ps e
structure NeatD (D : DiskM) : Prop where
  s : ∀ d ∈ D.settled, Neat 5 d
  w : ∀ q ∈ D.waiting, Neat 5 q.2
  p : D.picks.length ≤ 100
theorem fallS_neat : ∀ (w : List (Nat × Dt)) (s : List Dt) (ps : List Bool), (∀ d ∈ s, Neat 5 d) → (∀ q ∈ w, Neat 5 q.2) → ∀ d ∈ fallS s w ps, Neat 5 d
  | [], s, [], h, _ => h
  | [], s, _ :: _, h, _ => h
  | _ :: _, s, [], h, _ => h
  | q :: w, s, p :: ps, h, hw => by
    refine fallS_neat w (if p = true then s.set q.1 q.2 else s) ps (fun d hd => ?_) fun z hz => hw z (List.mem_cons_of_mem _ hz)
    split at hd
    · rcases List.mem_or_eq_of_mem_set hd with z | z
      · exact h d z
      · rw [z]; exact hw q (List.mem_cons_self ..)
    · exact h d hd
theorem setS_neat : ∀ (w : List (Nat × Dt)) (s : List Dt), (∀ d ∈ s, Neat 5 d) → (∀ q ∈ w, Neat 5 q.2) → ∀ d ∈ setS s w, Neat 5 d
  | [], s, h, _ => h
  | q :: w, s, h, hw => by
    refine setS_neat w (s.set q.1 q.2) (fun d hd => ?_) fun z hz => hw z (List.mem_cons_of_mem _ hz)
    rcases List.mem_or_eq_of_mem_set hd with z | z
    · exact h d z
    · rw [z]; exact hw q (List.mem_cons_self ..)
theorem NeatD.fall {D : DiskM} (h : NeatD D) (ps : List Bool) : NeatD (D.fall ps) := ⟨fallS_neat _ _ _ h.s h.w, fun _ z => (by simp [DiskM.fall] at z), h.p⟩
theorem NeatD.deed {D : DiskM} (h : NeatD D) : NeatD D.deed.1 ∧ D.deed.1.waiting.length ≤ D.waiting.length := by
  unfold DiskM.deed
  split
  · exact ⟨h, Nat.le_refl _⟩
  · split
    · exact ⟨h, Nat.le_refl _⟩
    · exact ⟨h.fall _, Nat.zero_le _⟩
    · exact ⟨⟨h.s, h.w, h.p⟩, Nat.le_refl _⟩
theorem NeatD.wr {D : DiskM} (h : NeatD D) {b : Nat} {x : Dt} (n : Neat 5 x) : NeatD (D.does (.wr b x)).1 ∧ (D.does (.wr b x)).1.waiting.length ≤ D.waiting.length + 1 := by
  unfold DiskM.does
  obtain ⟨d, l⟩ := h.deed
  split
  · exact ⟨d, by omega⟩
  · refine ⟨⟨d.s, fun q hq => ?_, d.p⟩, by show (D.deed.1.waiting ++ [(b, x)]).length ≤ _; rw [List.length_append, List.length_singleton]; omega⟩
    rcases List.mem_append.mp hq with z | z
    · exact d.w q z
    · rw [List.mem_singleton.mp z]; exact n
theorem NeatD.st {D : DiskM} (h : NeatD D) : NeatD (D.does .st).1 ∧ (D.does .st).1.waiting.length ≤ D.waiting.length := by
  unfold DiskM.does
  obtain ⟨d, l⟩ := h.deed
  split
  · exact ⟨d, l⟩
  · exact ⟨⟨setS_neat _ _ d.s d.w, fun _ z => (by simp [DiskM.act] at z), d.p⟩, Nat.zero_le _⟩
theorem SideAt.neat {K : PySem.W.Frag} {H : Hp} {p q : Addr} {F G : List Addr} {D : DiskM} (h : SideAt K H p q F G D) : NeatD D := ⟨h.neatS, h.neatW, h.picks⟩
def Lms_k11 : Lams := [(("_law_write", none), (("_law_write" ++ ".<locals>.") ++ "<lambda>" : Str)), (("_law_is", none), (("_law_is" ++ ".<locals>.") ++ "<lambda>" : Str)), (("law", none), (("law" ++ ".<locals>.") ++ "<lambda>" : Str))]
abbrev N_law_write : List Str := ["_law_box", "_law_disk", "_law_own", "_law_block", "_law_what_here", "_law_due"]
abbrev P_law_write : List Str := ["_law_box", "_law_disk", "_law_own"]
def Behind (K : PySem.W.Frag) (T : List (Addr × Str)) (H : Hp) (a bl p q : Addr) (F G : List Addr) (D : DiskM) (Q : VK) : Prop :=
  ∀ H' F' G' D', SideAt K H' p q F' G' D' → Box H' a bl → Tabs T H' → D'.waiting.length ≤ D.waiting.length + 1 → TupLe H H' → ButN (a :: bl :: (F ++ G)) H H' → OwnN (F ++ G) F' H → OwnN (F ++ G) G' H → Q (.bl true) H'
def sp_law_write (K : PySem.W.Frag) : Sp := fun vs H Q E => match vs with
  | [bv, dv, ov] => ∃ a bl p q F G D, bv = .ref a ∧ Box H a bl ∧ dv = .ref p ∧ ov = .ref q ∧ SideAt K H p q F G D ∧ Tabs (tabs Lms_k11 K) H ∧ (∀ x ∈ [a, bl], x ∉ F ∧ x ∉ G) ∧ D.waiting.length < 99 ∧ Behind K (tabs Lms_k11 K) H a bl p q F G D Q
  | _ => False
def t_law_write (K : PySem.W.Frag) (E : XK) : TS := (tSeq (tAsg (tOp (rIxL K) (tLst (tCons (tCall (sp_law_take K) [] E (tCons (tVar 0) (tConsC (.int 600) tNil))) (tCons (tCall (sp_law_take K) [] E (tCons (tVar 0) (tConsC (.int 3) tNil))) (tCons (tOp (rIxL K) (tLst (tConsC (.int (-1)) (tConsC (.int 600) (tCons (tOpC xPow (tC (.int 10)) (.int 18)) tNil)))) (tCall (sp_law_take K) [] E (tCons (tVar 0) (tConsC (.int 3) tNil)))) tNil)))) (tOpC xDiv (tCall (sp_law_take K) [] E (tCons (tVar 0) (tConsC (.int 9) tNil))) (.int 4))) (gName 3))
  (tSeq (tAsg (tCall (sp_law_what K) [] E (tCons (tVar 0) tNil)) (gName 4))
   (tSeq (tAsg (tTup (tConsC (.str "BadBlock") (tConsC (.int 0) tNil))) (gName 5))
    (tSeq (tIfS (tAnd (tTest (tChain xLe xLt (tC (.int 0)) (tVar 3) (tC (.int 600)))) (tTest (tOpC xLe (tCall (sp_law_weight K) [] E (tCons (tVar 4) tNil)) (.int 40)))) 
       (tSeq (tAsg (tIf (tB (tCall (sp_law_count K) [] E (tCons (tVar 2) tNil))) (tC .non) (tTup (tConsC (.str "Stopped") (tConsC (.int 0) tNil)))) (gName 5))
       (tIfS (tTest (tOpC rIsN (tVar 5) .non)) (tDrop (tBM K "list" rAppend (tDGet (tVar 2) (tC (.str "pending"))) (tCons (tTup (tCons (tVar 3) (tCons (tVar 4) tNil))) tNil))) tNext)) tNext)
     (tRet (tCall (sp_law_alike K) [] E (tCons (tLam (tabs Lms_k11 K) (TTold K) (fun E => (tMeth (He.ga K "Disk") "write" (sp_Disk_write K) [] E (tVar 1) (tCons (tVar 3) (tCons (tVar 4) tNil))))) (tCons (tVar 5) tNil))))))))
def tWEnd (K : PySem.W.Frag) (E : XK) : TE := tCall (sp_law_alike K) [] E (tCons (tLam (tabs Lms_k11 K) (TTold K) (fun E => (tMeth (He.ga K "Disk") "write" (sp_Disk_write K) [] E (tVar 1) (tCons (tVar 3) (tCons (tVar 4) tNil))))) (tCons (tVar 5) tNil))
section
variable {K : PySem.W.Frag} {E : XK} {H : Hp} {Q : VK} {a p q t : Addr} {n : Int} {v dv : V} {x : Dt} {F : List Addr} {D : DiskM}
theorem wEnd_bad (eB : ErrIs K "BadBlock") (A : DiskAt K H p F D) (few : D.waiting.length < 5000) (hv : DtAt H v x) (nx : Neat 5 x) (TT : Tabs (tabs Lms_k11 K) H) (et : H t = some (.tup [.str "BadBlock", .int 0])) (bad : ¬ (0 ≤ n ∧ n < 600 ∧ x.weight ≤ 40))
    (k : ∀ H', TupLe H H' → ButN [] H H' → Tabs (tabs Lms_k11 K) H' → Q (.bl true) H') : tWEnd K E [some (.ref a), some (.ref p), some (.ref q), some (.int n), some v, some (.ref t)] H Q := by
  refine told_by TT fun H1 x1 T1 => ?_
  have t1 := extN_tup x1
  have A1 := A.keepN t1 (ButN.ext (F := []) x1) (fun _ _ z => nomatch z)
  obtain ⟨ls, lw, lp, _, ⟨dx, eo⟩, _⟩ := id A1.ex
  refine ⟨_, rfl, p, dx, _, rfl, eo, no_Disk_write, _, rfl, _, rfl, p, F, D, n, x, rfl, A1, rfl, DtAt.st _ _ _ _ t1 hv, by have := nx.1; omega, nx.2, few, fun b e hb hw => (bad ⟨by omega, by omega, hw⟩).elim, fun _ H2 s2 => ?_⟩
  refine rErr_plain eB (by decide) fun u H3 hu s3 eu => ⟨_, rfl, alike_err (E := E) eu (s3 _ _ (s2 _ _ (t1 _ _ et))) (k H3 (t1.trans (TupLe.same (s2.trans s3))) ((ButN.ext x1).trans (ButN.of (But.same (s2.trans s3)))) (tabs_same T1 (s2.trans s3)))⟩
theorem wEnd_good (eS : ErrIs K "Stopped") (A : DiskAt K H p F D) (few : D.waiting.length < 5000) (hv : DtAt H v x) (nx : Neat 5 x) (TT : Tabs (tabs Lms_k11 K) H) {b : Nat} (hn : n = (b : Int)) (hb : b < 600) (hw : x.weight ≤ 40)
    (hd : if (D.does (.wr b x)).2 = true then dv = .ref t ∧ H t = some (.tup [.str "Stopped", .int 0]) else dv = .non)
    (k : ∀ H' F', DiskAt K H' p F' (D.does (.wr b x)).1 → TupLe H H' → ButN F H H' → OwnN F F' H → Tabs (tabs Lms_k11 K) H' → Q (.bl true) H') : tWEnd K E [some (.ref a), some (.ref p), some (.ref q), some (.int n), some v, some dv] H Q := by
  refine told_by TT fun H1 x1 T1 => ?_
  have t1 := extN_tup x1
  have A1 := A.keepN t1 (ButN.ext (F := []) x1) (fun _ _ z => nomatch z)
  obtain ⟨ls, lw, lp, _, ⟨dx, eo⟩, _⟩ := id A1.ex
  refine ⟨_, rfl, p, dx, _, rfl, eo, no_Disk_write, _, rfl, _, rfl, p, F, D, n, x, rfl, A1, rfl, DtAt.st _ _ _ _ t1 hv, by have := nx.1; omega, nx.2, few, fun c e hc _ => ?_, fun z => (z ⟨by omega, by omega, hw⟩).elim⟩
  obtain rfl : c = b := by omega
  intro H2 F2 A2 k2 o2
  have t2 : TupLe H1 H2 := A1.tup k2
  have T2 := tabs_but T1 k2 A1.free
  have o02 : OwnN F F2 H := OwnN.of o2 (ButN.ext (F := []) x1) (fun _ z => nomatch z)
  cases e2 : (D.does (.wr c x)).2 with
  | true =>
    rw [e2, if_pos rfl] at hd
    obtain ⟨rfl, et⟩ := hd
    rw [if_pos rfl]
    refine rErr_plain eS (by decide) fun u H3 hu s3 eu => ⟨_, rfl, alike_err (E := E) eu (s3 _ _ (t2 _ _ (t1 _ _ et))) (k H3 F2 (A2.same s3) ((t1.trans t2).trans (TupLe.same s3)) (((ButN.ext x1).trans (ButN.of k2)).trans (ButN.of (But.same s3))) o02 (tabs_same T2 s3))⟩
  | false =>
    rw [e2, if_neg (by decide)] at hd
    subst hd
    rw [if_neg (by decide)]
    exact ⟨_, rfl, alike_non (E := E) (k H2 F2 A2 (t1.trans t2) ((ButN.ext x1).trans (ButN.of k2)) o02 T2)⟩
end
theorem pure_law_write {K : PySem.W.Frag} (eBadBlock : ErrIs K "BadBlock") (eStopped : ErrIs K "Stopped") : ∀ vs H Q E, sp_law_write K vs H Q E → t_law_write K E { nx := fun _ H' => Q .non H', rt := Q } (start N_law_write vs) H := by
  intro vs H Q E h
  match vs, h with
  | [bv, dv, ov], h =>
    obtain ⟨a, bl, p, q, F, G, D, rfl, B, rfl, rfl, S, TT, nB, few, k⟩ := h
    refine ⟨_, rfl, a, bl, _, rfl, rfl, by decide, by decide, B, fun r1 H1 _ _ B1 k1 => ?_⟩
    refine ⟨_, rfl, a, bl, _, rfl, rfl, by decide, by decide, B1, fun r2 H2 _ _ B2 k2 => ?_⟩
    refine ⟨_, _, rfl, rfl, ⟨by decide, by decide, by decide⟩, szle (by show 3 ≤ 100000; decide), fun c hc => ?_⟩
    have nc := B2.fresh hc
    generalize gX : upd _ c _ = H3
    have s3 := newS hc gX
    have e3 := newE gX
    clear gX
    refine ⟨_, rfl, a, bl, _, rfl, rfl, by decide, by decide, B2.same s3, fun r3 H4 g0 g1 B4 k4 => ?_⟩
    obtain ⟨z, hz⟩ : ∃ z : Int, ([V.int (-1), V.int 600, V.int ((10 : Int) ^ (18 : Int).toNat)])[r3.toNat]? = some (V.int z) := by
      obtain rfl | rfl | rfl : r3 = 0 ∨ r3 = 1 ∨ r3 = 2 := by omega
      · exact ⟨_, rfl⟩
      · exact ⟨_, rfl⟩
      · exact ⟨_, rfl⟩
    refine ixL (k4 _ _ e3 nc) (j := r3.toNat) (by omega) hz ⟨szle (by show 3 ≤ 100000; decide), fun c2 hc2 => ?_⟩
    have nc2 := B4.fresh hc2
    generalize gX : upd _ c2 _ = H5
    have s5 := newS hc2 gX
    have e5 := newE gX
    clear gX
    refine ⟨_, rfl, a, bl, _, rfl, rfl, by decide, by decide, B4.same s5, fun r4 H6 g0 g1 B6 k6 => ⟨_, _, rfl, rfl, div_ok (by decide) (by decide), ?_⟩⟩
    obtain ⟨n, hn⟩ : ∃ n : Int, ([V.int r1, V.int r2, V.int z])[(r4 / 4).toNat]? = some (V.int n) := by
      obtain e | e | e : r4 / 4 = 0 ∨ r4 / 4 = 1 ∨ r4 / 4 = 2 := by omega
      · rw [e]; exact ⟨_, rfl⟩
      · rw [e]; exact ⟨_, rfl⟩
      · rw [e]; exact ⟨_, rfl⟩
    refine ixL (k6 _ _ e5 nc2) (j := (r4 / 4).toNat) (by omega) hn ?_
    refine ⟨_, rfl, a, bl, rfl, B6, fun v x H7 hv nx B7 k7 => ?_⟩
    have k07 : But [a, bl] H H7 := (((((k1.trans k2).trans (But.same s3)).trans k4).trans (But.same s5)).trans k6).trans k7
    clear k1 k2 k4 k6 k7 e5 e3 s3 s5 hz hn
    have t07 : TupLe H H7 := B.tup k07
    have S7 : SideAt K H7 p q F G D := S.keepN t07 (ButN.of k07) (fun x hx y => (nB x y).1 hx) (fun x hx y => (nB x y).2 hx)
    have T7 := tabs_but TT k07 B.free
    have w07 : ButN (a :: bl :: (F ++ G)) H H7 := (ButN.of k07).wide (by intro y hy; simp only [List.mem_cons, List.not_mem_nil, or_false] at hy; rcases hy with rfl | rfl <;> simp)
    have th7 : ∀ y ∈ [a, bl], ∃ u, H7 y = some u ∧ ∀ ps, u ≠ .tbl ps := fun y hy => by
      obtain ⟨ns, st, b1, b2, _⟩ := id B7.ex
      simp only [List.mem_cons, List.not_mem_nil, or_false] at hy
      rcases hy with rfl | rfl
      · exact ⟨_, b1, free_lst.1⟩
      · exact ⟨_, b2, free_lst.1⟩
    refine ⟨szle (by show 2 ≤ 100000; decide), fun t ht => ?_⟩
    have ft : t ∉ F := S7.disk.fresh ht
    have gt : t ∉ G := S7.own.fresh ht
    have bt : t ∉ [a, bl] := B7.fresh ht
    have t0 := ht
    generalize gX : upd _ t _ = H8
    have s8 := newS ht gX
    have e8 := newE gX
    clear gX
    have S8 : SideAt K H8 p q F G D := S7.keepN (Z := []) (TupLe.same s8) (ButN.of (But.same s8)) (fun _ _ z => nomatch z) (fun _ _ z => nomatch z)
    have T8 := tabs_same T7 s8
    have hv8 := DtAt.st _ _ _ _ (TupLe.same s8) hv
    have B8 := B7.same s8
    have w78 : ButN (a :: bl :: (F ++ G)) H7 H8 := ButN.of (But.same s8)
    have w08 := w07.trans w78
    have t08 := t07.trans (TupLe.same s8)
    have bad : ∀ H9, Same H8 H9 → ¬ (0 ≤ n ∧ n < 600 ∧ x.weight ≤ 40) → tWEnd K E [some (.ref a), some (.ref p), some (.ref q), some (.int n), some v, some (.ref t)] H9 Q := fun H9 s9 nb => by
      have S9 : SideAt K H9 p q F G D := S8.keepN (Z := []) (TupLe.same s9) (ButN.of (But.same s9)) (fun _ _ z => nomatch z) (fun _ _ z => nomatch z)
      refine wEnd_bad eBadBlock S9.disk (by omega) (DtAt.st _ _ _ _ (TupLe.same s9) hv8) nx (tabs_same T8 s9) (s9 _ _ e8) nb fun H' t' k' T' => ?_
      exact k H' F G D (S9.keepN t' k' (fun _ _ z => nomatch z) (fun _ _ z => nomatch z)) ((B8.same s9).keepN k' (fun _ _ z => nomatch z)) T' (by omega) ((t08.trans (TupLe.same s9)).trans t') ((w08.trans (ButN.of (But.same s9))).trans (k'.wide (by simp))) ((OwnN.refl _ _).wideL (by intro y hy; simp [hy])) ((OwnN.refl _ _).wideL (by intro y hy; simp [hy]))
    refine ⟨_, rfl, _, _, rfl, rfl, _, rfl, ?_⟩
    by_cases c0 : (0 : Int) ≤ n
    · rw [decide_eq_true c0]
      refine ⟨_, _, rfl, rfl, _, rfl, ?_⟩
      by_cases c6 : n < 600
      · rw [decide_eq_true c6]
        refine ⟨_, rfl, x, hv8, by have := nx.1; omega, nx.2, fun H9 s9 => ⟨_, _, rfl, rfl, _, rfl, ?_⟩⟩
        by_cases cw : ((x.weight : Nat) : Int) ≤ 40
        · rw [decide_eq_true cw]
          obtain ⟨b, hb⟩ : ∃ b : Nat, n = (b : Int) := ⟨n.toNat, by omega⟩
          have b6 : b < 600 := by omega
          have S9 : SideAt K H9 p q F G D := S8.keepN (Z := []) (TupLe.same s9) (ButN.of (But.same s9)) (fun _ _ z => nomatch z) (fun _ _ z => nomatch z)
          have B9 := B8.same s9
          have T9 := tabs_same T8 s9
          have hv9 := DtAt.st _ _ _ _ (TupLe.same s9) hv8
          have w09 : ButN (a :: bl :: (F ++ G)) H H9 := w08.trans (ButN.of (But.same s9))
          have t09 := t08.trans (TupLe.same s9)
          have o9 : ∀ {Z Z' : List Addr}, OwnN Z Z' H9 → OwnN Z Z' H := fun o => (o.from_ (Z := []) (ButN.of (But.same (s8.trans s9))) (fun _ z => nomatch z)).from_ (ButN.of k07) th7
          have N := S.neat.wr (b := b) nx
          have dis' : ∀ x ∈ G, x ∉ F := fun x h1 h2 => S.dis x h2 h1
          have fin : ∀ (HC : Hp) (GA : List Addr) (dv : V) (t' : Addr), OwnAt HC q GA (D.does (.wr b x)).1 → TupLe H9 HC → But G H9 HC → Own G GA H9 → (if (D.does (.wr b x)).2 = true then dv = .ref t' ∧ HC t' = some (.tup [.str "Stopped", .int 0]) else dv = .non) →
              tWEnd K E [some (.ref a), some (.ref p), some (.ref q), some (.int n), some v, some dv] HC Q := fun HC GA dv t' oC tC kC gC hd => by
            have dC : DiskAt K HC p F D := S9.disk.keepN tC (ButN.of kC) S.dis
            have BC : Box HC a bl := B9.keepN (ButN.of kC) fun x hx => (nB x hx).2
            have oGA : OwnN G GA H9 := OwnN.of gC (ButN.of (But.refl [] H9)) (fun _ z => nomatch z)
            have nGA : ∀ x ∈ GA, x ∉ F := oGA.out S9.disk.free S9.disk.there dis'
            refine wEnd_good eStopped dC (by omega) (DtAt.st _ _ _ _ tC hv9) nx (tabs_but T9 kC S9.own.free) hb b6 (by omega) hd fun H' F' A' tt kk oo T' => ?_
            have nF' : ∀ x ∈ F', x ∉ GA := oo.out oC.free oC.there fun x h1 h2 => nGA x h2 h1
            refine k H' F' GA _ ⟨A', oC.keepN tt kk nGA, nF', N.1.s, N.1.w, N.1.p⟩ (BC.keepN kk fun x hx => (nB x hx).1) T' N.2 ((t09.trans tC).trans tt) ((w09.trans ((ButN.of kC).wide (by intro y hy; simp [hy]))).trans (kk.wide (by intro y hy; simp [hy]))) (o9 fun y hy => ?_) (o9 (oGA.wideL (by intro y hy; simp [hy])))
            rcases oo y hy with z | z
            · exact .inl (by simp [z])
            · by_cases g : y ∈ G
              · exact .inl (by simp [g])
              · exact .inr fun u hu => z u (kC y u hu g)
          refine ⟨_, rfl, q, G, D, rfl, S9.own, S.picks, fun HA GA AA kA oA => ⟨_, rfl, ?_⟩⟩
          have tA : TupLe H9 HA := S9.own.tup kA
          unfold DiskM.does at fin
          cases e2 : D.deed.2 with
          | true =>
            simp only [e2, ↓reduceIte] at fin
            refine ⟨szle (by show 2 ≤ 100000; decide), fun u hu => ?_⟩
            have nu := AA.fresh hu
            generalize gX : upd _ u _ = HB
            have sB := newS hu gX
            have eB := newE gX
            clear gX
            refine ⟨_, rfl, rfl, _, rfl, ?_⟩
            rw [decide_eq_false (show ¬ V.ref u = V.non from fun z => by cases z)]
            exact fin HB GA (.ref u) u (AA.same sB) (tA.trans (TupLe.same sB)) (kA.trans (But.same sB)) oA ⟨rfl, eB⟩
          | false =>
            simp only [e2, ↓reduceIte, Bool.false_eq_true] at fin
            refine ⟨_, rfl, rfl, _, rfl, ?_⟩
            rw [decide_eq_true (show V.non = V.non from rfl)]
            obtain ⟨ls, lw, lp, eGA, e0, L1, ⟨wv, ew, pw⟩, e3, n1, n2, n3⟩ := id AA.ex
            have lwl := pw.length
            have fwl := S.neat.deed.2
            refine ow_get (i := 2) e0 rfl owK_pending ⟨.inl ⟨rfl, _, SqL.of ew⟩, _, rfl, _, rfl, szle (by show 2 ≤ 100000; decide), fun u hu => ?_⟩
            have nu := AA.fresh hu
            generalize gX : upd _ u _ = HB
            have sB := newS hu gX
            have eB := newE gX
            clear gX
            have ewB := sB _ _ ew
            refine ⟨_, _, _, rfl, rfl, ewB, szlt (by omega), ?_⟩
            have t4 : TupLe HB (upd HB lw (.lst (wv ++ [.ref u]))) := (TupLe.refl _).list ewB
            have k4 : But [lw] HB (upd HB lw (.lst (wv ++ [.ref u]))) := (But.refl _ _).put (by simp)
            have nqw : q ≠ lw := ne_of e0 ew (by intro z; cases z)
            have hvB := DtAt.st _ _ _ _ (tA.trans ((TupLe.same sB).trans t4)) hv9
            refine fin _ GA .non 0 ⟨⟨ls, lw, lp, eGA, k4 _ _ (sB _ _ e0) (ne1 nqw), (L1.same DtAt.st sB).keep DtAt.st t4 fun o e => k4 _ _ e (ne1 n1), ⟨_, upd_same, P2.app (Paired.tl WtAt.st ((TupLe.same sB).trans t4) pw) (P2.one ⟨v, ⟨u, rfl, ?_⟩, hvB⟩)⟩, k4 _ _ (sB _ _ e3) (ne1 n3.symm), n1, n2, n3⟩, AA.len, ?_, ?_⟩ (tA.trans ((TupLe.same sB).trans t4)) ?_ oA rfl
            · rw [← hb]
              exact t4 _ _ eB
            · show (D.deed.1.waiting ++ [(b, x)]).length ≤ 100
              rw [List.length_append, List.length_singleton]
              omega
            · intro y hy
              rcases List.mem_append.mp hy with z | z
              · exact AA.at_ y z
              · rw [List.mem_singleton.mp z]
                exact b6
            · intro y o e ny
              by_cases m : y = lw
              · exfalso
                subst m
                rcases oA y (by rw [eGA]; simp) with z | z
                · exact ny z
                · rw [z] at e
                  cases e
              · rw [upd_ne m]
                exact sB _ _ (kA _ _ e ny)
        · rw [decide_eq_false cw]
          exact bad H9 s9 fun z => cw (by omega)
      · rw [decide_eq_false c6]
        exact bad H8 (Same.refl _) fun z => c6 z.2.1
    · rw [decide_eq_false c0, if_neg Bool.false_ne_true]
      exact ⟨_, rfl, bad H8 (Same.refl _) fun z => c0 z.1⟩
end Rs

namespace Rs
open PySem PySem.Spec PyProof.Rows L2
open LamX
abbrev N_law_is : List Str := ["_law_box", "_law_disk", "_law_own", "_law_again", "_law_found", "_law_far", "_law_blocks", "_law_block", "_law_due", "_law_some", "_law_told_here", "_law_one", "_law_what_here"]
abbrev P_law_is : List Str := ["_law_box", "_law_disk", "_law_own"]
def sp_law_is (K : PySem.W.Frag) : Sp := fun vs H Q E => match vs with
  | [bv, dv, ov] => ∃ a bl p q F G D, bv = .ref a ∧ Box H a bl ∧ dv = .ref p ∧ ov = .ref q ∧ SideAt K H p q F G D ∧ Tabs (tabs Lms_k11 K) H ∧ (∀ x ∈ [a, bl], x ∉ F ∧ x ∉ G) ∧
    ∀ H', SideAt K H' p q F G D → Box H' a bl → Tabs (tabs Lms_k11 K) H' → TupLe H H' → ButN [a, bl] H H' → Q (.bl true) H'
  | _ => False
def t_law_is (K : PySem.W.Frag) (E : XK) : TS := (tSeq (tFor (iRng1 (tConsC (.int 2) tNil)) (gName 3) 
    (tSeq (tAsg (tMeth (He.ga K "Disk") "blocks" (sp_Disk_blocks K) [] E (tVar 1) tNil) (gName 4))
    (tSeq (tIfS (tNot (tB (tCall (sp_law_alike K) [] E (tCons (tVar 4) (tCons (tDGet (tVar 2) (tC (.str "settled"))) tNil))))) (tRet (tC (.bl false))) tNext)
     (tDrop (tBM0 K "list" rClear (tVar 4))))))
  (tSeq (tAsg (tCall (sp_law_take K) [] E (tCons (tVar 0) (tCons (tOpC xPow (tC (.int 10)) (.int 18)) tNil))) (gName 5))
   (tSeq (tAsg (tLst (tCons (tCall (sp_law_take K) [] E (tCons (tVar 0) (tConsC (.int 3) tNil))) (tCons (tCall (sp_law_take K) [] E (tCons (tVar 0) (tConsC (.int 3) tNil))) (tCons (tCall (sp_law_take K) [] E (tCons (tVar 0) (tConsC (.int 600) tNil))) (tCons (tOpD xAdd (.int 600) (tVar 5)) (tCons (tOpD xSub (.int (-1)) (tVar 5)) (tCons (tOpD xSub (.int (-1)) (tCall (sp_law_take K) [] E (tCons (tVar 0) (tConsC (.int 600) tNil)))) tNil))))))) (gName 6))
    (tSeq (tAsg (tOp (rIxL K) (tVar 6) (tCall (sp_law_take K) [] E (tCons (tVar 0) (tConsC (.int 6) tNil)))) (gName 7))
     (tSeq (tAsg (tTup (tConsC (.str "BadBlock") (tConsC (.int 0) tNil))) (gName 8))
      (tSeq (tIfS (tTest (tChain xLe xLt (tC (.int 0)) (tVar 7) (tC (.int 600)))) 
         (tSeq (tAsg (tLc (iList K (tDGet (tVar 2) (tC (.str "pending")))) (gTup K 2 (gCons (gName 11) (gCons (gName 12) gNil))) (tTest (tOp rEq (tVar 11) (tVar 7))) (tVar 12) [11, 12]) (gName 9))
         (tSeq (tAsg (tIf (tTest (tOp (xEqE K) (tVar 9) (tLst tNil))) (tOp (rIxL K) (tDGet (tVar 2) (tC (.str "settled"))) (tVar 7)) (tOpC (rIxL K) (tVar 9) (.int (-1)))) (gName 10))
          (tAsg (tIf (tB (tDGet (tVar 2) (tC (.str "fallen")))) (tTup (tConsC (.str "Stopped") (tConsC (.int 0) tNil))) (tVar 10)) (gName 8)))) tNext)
       (tRet (tCall (sp_law_alike K) [] E (tCons (tLam (tabs Lms_k11 K) (TTold K) (fun E => (tMeth (He.ga K "Disk") "read" (sp_Disk_read K) [] E (tVar 1) (tCons (tVar 7) tNil)))) (tCons (tVar 8) tNil))))))))))
def writes (w : List (Nat × Dt)) (b : Nat) : List Dt := w.filterMap fun q => if q.1 = b then some q.2 else none
theorem writes_last (b : Nat) : ∀ w : List (Nat × Dt), (w.reverse.find? fun q => decide (q.1 = b)).map (·.2) = (writes w b).getLast?
  | [] => rfl
  | q :: w => by
    rw [List.reverse_cons, List.find?_append]
    have ih := writes_last b w
    unfold writes at ih ⊢
    rw [List.filterMap_cons]
    by_cases c : q.1 = b
    · rw [if_pos c]
      have e : (List.find? (fun q => decide (q.1 = b)) [q]) = some q := by simp [c]
      rw [e]
      cases z : List.find? (fun q => decide (q.1 = b)) w.reverse with
      | none =>
        rw [z] at ih
        have n : (w.filterMap fun q => if q.1 = b then some q.2 else none) = [] := List.getLast?_eq_none_iff.mp ih.symm
        dsimp only
        rw [n]
        rfl
      | some y =>
        rw [z] at ih
        dsimp only
        rw [List.getLast?_cons, ← ih]
        rfl
    · rw [if_neg c]
      have e : (List.find? (fun q => decide (q.1 = b)) [q]) = none := by simp [c]
      rw [e, Option.or_none]
      exact ih
theorem get_writes (D : DiskM) (b : Nat) : D.get b = ((writes D.waiting b).getLast?).getD (D.settled.getD b .non) := by
  unfold DiskM.get
  rw [writes_last]
theorem writes_neat {D : DiskM} (h : NeatD D) (b : Nat) : ∀ d ∈ writes D.waiting b, Neat 5 d := fun d hd => by
  obtain ⟨q, hq, e⟩ := List.mem_filterMap.mp hd
  split at e
  · cases e; exact h.w q hq
  · cases e
theorem get_neat {D : DiskM} (h : NeatD D) (b : Nat) : Neat 5 (D.get b) := by
  rw [get_writes]
  cases e : (writes D.waiting b).getLast? with
  | some d => exact writes_neat h b d (List.mem_of_getLast? e)
  | none =>
    show Neat 5 (D.settled.getD b .non)
    rw [List.getD_eq_getElem?_getD]
    cases z : D.settled[b]? with
    | none => exact (neat0 (d := .non) fun _ => nofun).up (by decide)
    | some d => exact h.s d (List.mem_of_getElem? z)
def tIEnd (K : PySem.W.Frag) (E : XK) : TE := tCall (sp_law_alike K) [] E (tCons (tLam (tabs Lms_k11 K) (TTold K) (fun E => (tMeth (He.ga K "Disk") "read" (sp_Disk_read K) [] E (tVar 1) (tCons (tVar 7) tNil)))) (tCons (tVar 8) tNil))
section
variable {K : PySem.W.Frag} {E : XK} {H : Hp} {Q : VK} {a p q t : Addr} {n : Int} {v dv : V} {x3 x4 x5 x6 x9 x10 x11 x12 : Option V} {F : List Addr} {D : DiskM}
theorem iEnd_bad (eB : ErrIs K "BadBlock") (A : DiskAt K H p F D) (TT : Tabs (tabs Lms_k11 K) H) (et : H t = some (.tup [.str "BadBlock", .int 0])) (bad : ¬ (0 ≤ n ∧ n < 600))
    (k : ∀ H', TupLe H H' → ButN [] H H' → Tabs (tabs Lms_k11 K) H' → Q (.bl true) H') : tIEnd K E [some (.ref a), some (.ref p), some (.ref q), x3, x4, x5, x6, some (.int n), some (.ref t), x9, x10, x11, x12] H Q := by
  refine told_by TT fun H1 x1 T1 => ?_
  have t1 := extN_tup x1
  have A1 := A.keepN t1 (ButN.ext (F := []) x1) (fun _ _ z => nomatch z)
  obtain ⟨ls, lw, lp, _, ⟨dx, eo⟩, _⟩ := id A1.ex
  refine ⟨_, rfl, p, dx, _, rfl, eo, no_Disk_read, _, rfl, p, F, D, n, rfl, A1, rfl, fun b e hb => (bad ⟨by omega, by omega⟩).elim, fun _ => ?_⟩
  exact rErr_plain eB (by decide) fun u H3 hu s3 eu => ⟨_, rfl, alike_err (E := E) eu (s3 _ _ (t1 _ _ et)) (k H3 (t1.trans (TupLe.same s3)) ((ButN.ext x1).trans (ButN.of (But.same s3))) (tabs_same T1 s3))⟩
theorem iEnd_good (eS : ErrIs K "Stopped") (A : DiskAt K H p F D) (TT : Tabs (tabs Lms_k11 K) H) {b : Nat} (hn : n = (b : Int)) (hb : b < 600) (nx : Neat 5 (D.get b))
    (hd : if D.down = true then dv = .ref t ∧ H t = some (.tup [.str "Stopped", .int 0]) else DtAt H dv (D.get b))
    (k : ∀ H', TupLe H H' → ButN [] H H' → Tabs (tabs Lms_k11 K) H' → Q (.bl true) H') : tIEnd K E [some (.ref a), some (.ref p), some (.ref q), x3, x4, x5, x6, some (.int n), some dv, x9, x10, x11, x12] H Q := by
  refine told_by TT fun H1 x1 T1 => ?_
  have t1 := extN_tup x1
  have A1 := A.keepN t1 (ButN.ext (F := []) x1) (fun _ _ z => nomatch z)
  obtain ⟨ls, lw, lp, _, ⟨dx, eo⟩, _⟩ := id A1.ex
  refine ⟨_, rfl, p, dx, _, rfl, eo, no_Disk_read, _, rfl, p, F, D, n, rfl, A1, rfl, fun c e hc => ?_, fun z => (z ⟨by omega, by omega⟩).elim⟩
  obtain rfl : c = b := by omega
  refine ⟨fun dn => ?_, fun dn v H2 hv s2 => ?_⟩
  · rw [dn, if_pos rfl] at hd
    obtain ⟨rfl, et⟩ := hd
    exact rErr_plain eS (by decide) fun u H3 hu s3 eu => ⟨_, rfl, alike_err (E := E) eu (s3 _ _ (t1 _ _ et)) (k H3 (t1.trans (TupLe.same s3)) ((ButN.ext x1).trans (ButN.of (But.same s3))) (tabs_same T1 s3))⟩
  · rw [dn, if_neg Bool.false_ne_true] at hd
    have t2 := t1.trans (TupLe.same s2)
    exact ⟨_, rfl, alike_dt (E := E) nx hv (DtAt.st _ _ _ _ t2 hd) (k H2 t2 ((ButN.ext x1).trans (ButN.of (But.same s2))) (tabs_same T1 s2))⟩
end
theorem pure_law_is {K : PySem.W.Frag} (eBadBlock : ErrIs K "BadBlock") (eStopped : ErrIs K "Stopped") : ∀ vs H Q E, sp_law_is K vs H Q E → t_law_is K E { nx := fun _ H' => Q .non H', rt := Q } (start N_law_is vs) H := by
  intro vs H Q E h
  match vs, h with
  | [bv, dv, ov], h =>
    obtain ⟨a, bl, p, q, F, G, D, rfl, B, rfl, rfl, S, TT, nB, k⟩ := h
    have keep : ∀ {H1 H2 : Hp}, SideAt K H1 p q F G D → Same H1 H2 → SideAt K H2 p q F G D := fun s e => s.keepN (Z := []) (TupLe.same e) (ButN.of (But.same e)) (fun _ _ z => nomatch z) (fun _ _ z => nomatch z)
    refine ⟨_, rfl, by decide, by decide, ?_⟩
    refine for_range (lo := 0) (n := (2 : Int).toNat) (fun i σ H' => ∃ x3 x4, σ = [some (.ref a), some (.ref p), some (.ref q), x3, x4, none, none, none, none, none, none, none, none] ∧ Same H H')
      ⟨none, none, rfl, Same.refl _⟩ ?_ ?_
    · rintro i σ H1 hi ⟨x3, x4, rfl, s1⟩
      have S1 := keep S s1
      obtain ⟨_, _, _, _, ⟨dx, eo⟩, _⟩ := id S1.disk.ex
      refine ⟨_, rfl, p, dx, _, rfl, eo, no_Disk_blocks, p, F, D, rfl, S1.disk, fun l H2 hl L2 s2 => ?_⟩
      obtain ⟨ls, lw, lp, _, e0, Ls, _⟩ := id (S1.own.same s2).ex
      have lD := S.own.len
      have okS : okA 7 (.list (D.settled.map Dt.py)) := ⟨by rw [List.length_map]; omega, fun y hy => by
        obtain ⟨d, hd, rfl⟩ := List.mem_map.mp hy
        exact Dt.okA d 5 (S.neatS d hd)⟩
      refine ⟨_, rfl, ow_get (i := 2) e0 rfl owK_settled ⟨.list (D.settled.map Dt.py), okS.to (by decide), lst_dp (fun v d e => Dt.dp d v e) L2, lst_dp (fun v d e => Dt.dp d v e) Ls, ?_⟩⟩
      obtain ⟨lv, el, _⟩ := L2
      refine ⟨_, rfl, ⟨_, rfl, .inl ⟨rfl, _, SqL.of el⟩, l, lv, rfl, rfl, el, _, _, rfl, ?_⟩⟩
      exact Rs.Same.mut (s1.trans s2) (s1.free hl)
    · rintro σ H1 ⟨x3, x4, rfl, s1⟩
      have B1 := B.same s1
      refine ⟨_, rfl, _, _, rfl, rfl, ⟨by decide, by decide, by decide⟩, a, bl, _, rfl, rfl, by decide +kernel, by decide +kernel, B1, fun far H2 _ _ B2 k2 => ?_⟩
      refine ⟨_, rfl, a, bl, _, rfl, rfl, by decide, by decide, B2, fun r1 H3 _ _ B3 k3 => ?_⟩
      refine ⟨_, rfl, a, bl, _, rfl, rfl, by decide, by decide, B3, fun r2 H4 _ _ B4 k4 => ?_⟩
      refine ⟨_, rfl, a, bl, _, rfl, rfl, by decide, by decide, B4, fun r3 H5 _ _ B5 k5 => ?_⟩
      refine ⟨_, rfl, _, _, rfl, rfl, _, rfl, _, _, rfl, rfl, ?_⟩
      refine ⟨_, rfl, a, bl, _, rfl, rfl, by decide, by decide, B5, fun r4 H6 _ _ B6 k6 => ⟨_, _, rfl, rfl, szle (by show 6 ≤ 100000; decide), fun c hc => ?_⟩⟩
      have nc := B6.fresh hc
      generalize gX : upd _ c _ = H7
      have s7 := newS hc gX
      have e7 := newE gX
      clear gX
      refine ⟨_, rfl, _, rfl, a, bl, _, rfl, rfl, by decide, by decide, B6.same s7, fun r5 H8 g0 g1 B8 k8 => ?_⟩
      have e8 := k8 _ _ e7 nc
      obtain ⟨n, hn⟩ : ∃ n : Int, ([V.int r1, V.int r2, V.int r3, V.int (600 + far), V.int (-1 - far), V.int (-1 - r4)])[r5.toNat]? = some (V.int n) := by
        obtain rfl | rfl | rfl | rfl | rfl | rfl : r5 = 0 ∨ r5 = 1 ∨ r5 = 2 ∨ r5 = 3 ∨ r5 = 4 ∨ r5 = 5 := by omega
        · exact ⟨_, rfl⟩
        · exact ⟨_, rfl⟩
        · exact ⟨_, rfl⟩
        · exact ⟨_, rfl⟩
        · exact ⟨_, rfl⟩
        · exact ⟨_, rfl⟩
      refine ixL e8 (j := r5.toNat) (by omega) hn ⟨szle (by show 2 ≤ 100000; decide), fun t ht => ?_⟩
      have k08 : But [a, bl] H H8 := (((((((But.same s1).trans k2).trans k3).trans k4).trans k5).trans k6).trans (But.same s7)).trans k8
      have t08 := B.tup k08
      have S8 : SideAt K H8 p q F G D := S.keepN t08 (ButN.of k08) (fun x hx y => (nB x y).1 hx) (fun x hx y => (nB x y).2 hx)
      have T8 := tabs_but TT k08 B.free
      clear k2 k3 k4 k5 k6 k8 e7 s7 hn e8
      generalize gX : upd _ t _ = H9
      have s9 := newS ht gX
      have et := newE gX
      clear gX
      have S9 := keep S8 s9
      have fin : ∀ H10, Same H9 H10 → ∀ H', TupLe H10 H' → ButN [] H10 H' → Tabs (tabs Lms_k11 K) H' → Q (.bl true) H' := fun H10 sa H' t' k' T' =>
        k H' ((keep S9 sa).keepN t' k' (fun _ _ z => nomatch z) (fun _ _ z => nomatch z)) (((B8.same s9).same sa).keepN k' (fun _ _ z => nomatch z)) T' ((t08.trans (TupLe.same (s9.trans sa))).trans t') (((ButN.of k08).trans (ButN.of (But.same (s9.trans sa)))).trans (k'.wide (by simp)))
      refine ⟨_, rfl, _, _, rfl, rfl, _, rfl, ?_⟩
      by_cases c0 : (0 : Int) ≤ n
      · rw [decide_eq_true c0]
        refine ⟨_, _, rfl, rfl, _, rfl, ?_⟩
        by_cases c6 : n < 600
        · rw [decide_eq_true c6]
          obtain ⟨b, hb⟩ : ∃ b : Nat, n = (b : Int) := ⟨n.toNat, by omega⟩
          obtain ⟨ls, lw, lp, eG, e0, Ls, ⟨wv, ew, pw⟩, e3, n1, n2, n3⟩ := id S9.own.ex
          have rest : ∀ (H10 : Hp) (w : V) (x9 : Option V), Same H9 H10 → DtAt H10 w (D.get b) → (tIf (tB (tDGet (tVar 2) (tC (.str "fallen")))) (tTup (tConsC (.str "Stopped") (tConsC (.int 0) tNil))) (tVar 10)) [some (.ref a), some (.ref p), some (.ref q), x3, x4, some (.int far), some (.ref c), some (.int n), some (.ref t), x9, some w, none, none] H10
              (fun dv H11 => tIEnd K E [some (.ref a), some (.ref p), some (.ref q), x3, x4, some (.int far), some (.ref c), some (.int n), some dv, x9, some w, none, none] H11 Q) := fun H10 w x9 sa hw => by
            have Sa := keep S9 sa
            refine ow_get (i := 2) (sa _ _ e0) rfl owK_fallen ⟨_, rfl, ?_⟩
            cases dn : D.down with
            | true =>
              refine ⟨szle (by show 2 ≤ 100000; decide), fun u hu => ?_⟩
              generalize gX : upd _ u _ = H11
              have sb := newS hu gX
              have eu := newE gX
              clear gX
              exact iEnd_good (t := u) eStopped (keep Sa sb).disk (tabs_same T8 ((s9.trans sa).trans sb)) hb (by omega) (get_neat S.neat b) (by rw [dn, if_pos rfl]; exact ⟨rfl, eu⟩) (fin H11 (sa.trans sb))
            | false =>
              exact ⟨_, rfl, iEnd_good (t := 0) eStopped Sa.disk (tabs_same T8 (s9.trans sa)) hb (by omega) (get_neat S.neat b) (by rw [dn, if_neg Bool.false_ne_true]; exact hw) (fin H10 sa)⟩
          have wf := S9.own.few
          have wl := pw.length
          refine ow_get (i := 2) e0 rfl owK_pending ⟨lw, rfl, ⟨_, SqL.of ew⟩, fun DD hD => ?_⟩
          refine lcm_list (S := DtAt) (fun q : Nat × Dt => if q.1 = b then some q.2 else none) DtAt.st ew pw hD ?_ (by omega) ?_
          · intro j v q' H' hq hv r s skip put
            obtain ⟨w, ⟨a', rfl, ea⟩, hd⟩ := r
            refine ⟨a', _, rfl, SqT.of (s _ _ ea), rfl, _, _, rfl, _, _, rfl, rfl, rfl, ?_⟩
            refine ⟨_, rfl, _, rfl, rfl, _, rfl, ?_⟩
            by_cases cq : q'.1 = b
            · rw [decide_eq_true (show V.int (q'.1 : Int) = V.int n by rw [hb, cq])]
              exact ⟨_, rfl, put _ _ _ (Same.refl _) (if_pos cq) (DtAt.st _ _ _ _ (TupLe.same s) hd)⟩
            · rw [decide_eq_false (show ¬ V.int (q'.1 : Int) = V.int n from fun z => cq (by injection z with z; omega))]
              exact skip _ (Same.refl _) (if_neg cq)
          · intro H10 L10 s10
            have L10 : Lst DtAt H10 DD (writes D.waiting b) := L10
            have gw := get_writes D b
            obtain ⟨fv, ef, pf⟩ := L10
            refine ⟨_, rfl, sz0, fun z hz => ?_⟩
            generalize gX : upd _ z _ = H11
            have s11 := newS hz gX
            have ez := newE gX
            clear gX
            have s91 := s10.trans s11
            refine ⟨DD, z, fv, [], rfl, rfl, SqL.of (s11 _ _ ef), SqL.of ez, .inr rfl, _, rfl, ?_⟩
            have lf := pf.length
            rcases List.eq_nil_or_concat (writes D.waiting b) with w0 | ⟨ys, y, w0⟩
            · rw [w0] at lf gw
              rw [decide_eq_true (show fv.length = ([] : List V).length from lf)]
              obtain ⟨sv, es, ps⟩ := id Ls
              have lsl := ps.length
              have l600 := S9.own.len
              obtain ⟨vv, hvv⟩ : ∃ vv, sv[b]? = some vv := ⟨_, List.getElem?_eq_getElem (by omega)⟩
              obtain ⟨d, hd2, hdt⟩ := P2.get ps hvv
              refine ow_get (i := 2) (s91 _ _ e0) rfl owK_settled ⟨_, rfl, ixL (s91 _ _ es) (j := b) hb hvv ?_⟩
              refine rest H11 vv _ s91 ?_
              rw [gw]
              show DtAt H11 vv (D.settled.getD b .non)
              rw [List.getD_eq_getElem?_getD, hd2]
              exact DtAt.st _ _ _ _ (TupLe.same s91) hdt
            · rw [List.concat_eq_append] at w0
              rw [w0] at lf gw pf
              rw [decide_eq_false (show ¬ fv.length = ([] : List V).length by rw [lf, List.length_append, List.length_singleton, List.length_nil]; omega)]
              rcases List.eq_nil_or_concat fv with f0 | ⟨gs, g, f0⟩
              · rw [f0, List.length_append, List.length_singleton, List.length_nil] at lf
                omega
              · rw [List.concat_eq_append] at f0
                subst f0
                refine ⟨_, rfl, ixLast (s11 _ _ ef) ?_⟩
                refine rest H11 g _ s91 ?_
                rw [gw, List.getLast?_append, List.getLast?_singleton]
                exact DtAt.st _ _ _ _ (TupLe.same s11) (P2.last pf)
        · rw [decide_eq_false c6]
          exact iEnd_bad eBadBlock S9.disk (tabs_same T8 s9) et (fun z => c6 z.2) (fin H9 (Same.refl _))
      · rw [decide_eq_false c0, if_neg Bool.false_ne_true]
        exact ⟨_, rfl, iEnd_bad eBadBlock S9.disk (tabs_same T8 s9) et (fun z => c0 z.1) (fin H9 (Same.refl _))⟩
end Rs

namespace Rs
open PySem PySem.Spec PyProof.Rows L2
open LamX
abbrev N_law_arms : List Str := ["_law_box", "_law_disk", "_law_own", "_law_picks", "_law_handed", "_law_way", "_law_many", "_law_good", "_law_k"]
abbrev P_law_arms : List Str := ["_law_box", "_law_disk", "_law_own"]
def sp_law_arms (K : PySem.W.Frag) : Sp := fun vs H Q E => match vs with
  | [bv, dv, ov] => ∃ a bl p q F G D, bv = .ref a ∧ Box H a bl ∧ dv = .ref p ∧ ov = .ref q ∧ SideAt K H p q F G D ∧ Tabs (tabs Lms_k11 K) H ∧ (∀ x ∈ [a, bl], x ∉ F ∧ x ∉ G) ∧ Behind K (tabs Lms_k11 K) H a bl p q F G D Q
  | _ => False
def t_law_arms (K : PySem.W.Frag) (E : XK) : TS := (tSeq (tAsg (tLc (iRng1 (tCons (tCall (sp_law_take K) [] E (tCons (tVar 0) (tConsC (.int 9) tNil))) tNil)) (gName 8) tYes (tOpC rEq (tCall (sp_law_take K) [] E0 (tCons (tVar 0) (tConsC (.int 2) tNil))) (.int 0)) [8]) (gName 3))
  (tSeq (tAsg (tCB1 (xList K) (tVar 3)) (gName 4))
   (tSeq (tAsg (tCall (sp_law_take K) [] E (tCons (tVar 0) (tConsC (.int 4) tNil))) (gName 5))
    (tSeq (tIfS (tTest (tOpC xLt (tVar 5) (.int 2))) 
       (tSeq (tAsg (tCall (sp_law_take K) [] E (tCons (tVar 0) (tCons (tOp (rIxL K) (tLst (tConsC (.int 3) (tConsC (.int 20) tNil))) (tVar 5)) tNil))) (gName 6))
       (tSeq (tIfS (tNot (tB (tDGet (tVar 2) (tC (.str "fallen"))))) 
          (tSeq (sDPut (tVar 2) (tC (.str "left")) (tVar 6))
          (sDPut (tVar 2) (tC (.str "picks")) (tVar 3))) tNext)
        (tDrop (tMeth (He.ga K "Disk") "arm" (sp_Disk_arm K) [] E (tVar 1) (tCons (tVar 6) (tCons (tVar 4) tNil)))))) 
       (tIfS (tTest (tOpC rEq (tVar 5) (.int 2))) 
         (tSeq (tDrop (tCall (sp_law_fall K) [] E (tCons (tVar 2) (tCons (tVar 3) tNil))))
         (tDrop (tMeth (He.ga K "Disk") "stop" (sp_Disk_stop K) [] E (tVar 1) (tCons (tVar 4) tNil)))) 
         (tSeq (tDrop (tBM K "dict" (rDUpdP K) (tVar 2) (tCons (tLst (tCons (tTup (tConsC (.str "pending") (tCons (tLst tNil) tNil))) (tCons (tTup (tConsC (.str "left") (tConsC .non tNil))) (tCons (tTup (tConsC (.str "picks") (tCons (tLst tNil) tNil))) (tCons (tTup (tConsC (.str "fallen") (tConsC (.bl false) tNil))) tNil))))) tNil)))
         (tDrop (tMeth (He.ga K "Disk") "again" (sp_Disk_again K) [] E (tVar 1) tNil)))))
     (tSeq (tAsg (tOp (rEqD K) (tVar 4) (tVar 3)) (gName 7))
      (tSeq (tDrop (tBM K "list" rAppend (tVar 4) (tConsC (.bl true) tNil)))
       (tRet (tVar 7))))))))
theorem bools_ok (ks : List Bool) (h : ks.length ≤ 100) : okD 3 (.list (ks.map PyData.bool)) := ⟨by rw [List.length_map]; omega, fun d hd => by
  obtain ⟨b, _, rfl⟩ := List.mem_map.mp hd
  trivial⟩
theorem bools_dp {K : PySem.W.Frag} {H : Hp} {l : Addr} : ∀ {ks : List Bool}, H l = some (.lst (ks.map V.bl)) → Dp K H (.ref l) (.list (ks.map PyData.bool)) := fun {ks} e => .lst (SqL.of e) (by
  clear e
  induction ks with
  | nil => exact .nil
  | cons b ks ih => exact .cons (.bl b) ih)
theorem both2 {K : PySem.W.Frag} {H H1 H2 : Hp} {p q a bl : Addr} {F G F2 G1 : List Addr} {D D1 : DiskM} {T : List (Addr × Str)} (S : SideAt K H p q F G D) (A : OwnAt H1 q G1 D1) (k1 : But G H H1) (nG : ∀ x ∈ G1, x ∉ F) (A2 : DiskAt K H2 p F2 D1) (k2 : But F H1 H2) (o2 : Own F F2 H1) (N : NeatD D1) (B : Box H a bl) (nB : ∀ x ∈ [a, bl], x ∉ F ∧ x ∉ G) (TT : Tabs T H) :
    SideAt K H2 p q F2 G1 D1 ∧ Box H2 a bl ∧ Tabs T H2 ∧ TupLe H H2 ∧ ButN (F ++ G) H H2 ∧ OwnN (F ++ G) F2 H := by
  have t1 := S.own.tup k1
  have d1 : DiskAt K H1 p F D := S.disk.keepN t1 (ButN.of k1) S.dis
  have t2 := d1.tup k2
  have oF : OwnN F F2 H1 := OwnN.of o2 (ButN.of (But.refl [] H1)) (fun _ z => nomatch z)
  have nF : ∀ x ∈ F2, x ∉ G1 := oF.out A.free A.there fun x h1 h2 => nG x h2 h1
  refine ⟨⟨A2, A.keepN t2 (ButN.of k2) nG, nF, N.s, N.w, N.p⟩, (B.keepN (ButN.of k1) fun x hx => (nB x hx).2).keepN (ButN.of k2) fun x hx => (nB x hx).1, tabs_but (tabs_but TT k1 S.own.free) k2 d1.free, t1.trans t2,
    ((ButN.of k1).wide (by intro y hy; simp [hy])).trans ((ButN.of k2).wide (by intro y hy; simp [hy])), fun y hy => ?_⟩
  rcases oF y hy with z | z
  · exact .inl (by simp [z])
  · by_cases g : y ∈ G
    · exact .inl (by simp [g])
    · exact .inr fun u hu => z u (k1 y u hu g)
theorem both {K : PySem.W.Frag} {H H1 H2 : Hp} {p q a bl : Addr} {F G F2 G1 : List Addr} {D D1 : DiskM} {T : List (Addr × Str)} (S : SideAt K H p q F G D) (A : OwnAt H1 q G1 D1) (k1 : But G H H1) (o1 : Own G G1 H) (A2 : DiskAt K H2 p F2 D1) (k2 : But F H1 H2) (o2 : Own F F2 H1) (N : NeatD D1) (B : Box H a bl) (nB : ∀ x ∈ [a, bl], x ∉ F ∧ x ∉ G) (TT : Tabs T H) :
    SideAt K H2 p q F2 G1 D1 ∧ Box H2 a bl ∧ Tabs T H2 ∧ TupLe H H2 ∧ ButN (F ++ G) H H2 ∧ OwnN (F ++ G) F2 H ∧ OwnN (F ++ G) G1 H := by
  have oG : OwnN G G1 H := OwnN.of o1 (ButN.of (But.refl [] H)) (fun _ z => nomatch z)
  obtain ⟨g1, g2, g3, g4, g5, g6⟩ := both2 S A k1 (oG.out S.disk.free S.disk.there fun x h1 h2 => S.dis x h2 h1) A2 k2 o2 N B nB TT
  exact ⟨g1, g2, g3, g4, g5, g6, oG.wideL (by intro y hy; simp [hy])⟩
theorem Own.not {F F' : List Addr} {H : Hp} {x : Addr} {u : HO} (o : Own F F' H) (n : x ∉ F) (e : H x = some u) : x ∉ F' := fun z => by
  rcases o x z with y | y
  · exact n y
  · rw [y] at e; cases e
theorem pure_law_arms {K : PySem.W.Frag} : ∀ vs H Q E, sp_law_arms K vs H Q E → t_law_arms K E { nx := fun _ H' => Q .non H', rt := Q } (start N_law_arms vs) H := by
  intro vs H Q E h
  match vs, h with
  | [bv, dv, ov], h =>
    obtain ⟨a, bl, p, q, F, G, D, rfl, B, rfl, rfl, S, TT, nB, k⟩ := h
    refine ⟨_, rfl, a, bl, _, rfl, rfl, by decide, by decide, B, fun m H1 m0 m1 B1 k1 => ⟨_, rfl, by omega, by omega, fun DD hD => ?_⟩⟩
    have nD := B1.fresh hD
    refine lc_range (lo := 0) (n := m.toNat) (fun i H' => ∃ ks : List Bool, H' DD = some (.lst (ks.map V.bl)) ∧ ks.length = i ∧ Box H' a bl ∧ But [a, bl] H1 H') ⟨[], upd_same, rfl, B1.same (Rs.Same.new hD), But.same (Rs.Same.new hD)⟩ ?_ ?_
    · rintro i H2 hi ⟨ks, hd, hl, B2, k2⟩
      refine ⟨rfl, lc_yes ⟨_, rfl, a, bl, _, rfl, rfl, by decide, by decide, B2, fun g H3 g0 g1 B3 k3 => ⟨rfl, ?_⟩⟩⟩
      have hd3 := k3 _ _ hd nD
      exact ⟨_, hd3, szlt (by rw [List.length_map]; omega), ks ++ [decide (V.int g = V.int 0)], by rw [upd_same, List.map_append] <;> rfl, by simp [hl], B3.keep (fun o e => up e fun z => nD (by rw [← z]; simp)) (fun o e => up e fun z => nD (by rw [← z]; simp)), (k2.trans k3).mut hD⟩
    · rintro H2 ⟨ks, hd, hl, B2, k2⟩
      have l9 : ks.length ≤ 9 := by omega
      refine ⟨_, rfl, DD, _, rfl, .inl (SqL.of hd), fun hh hhh => ?_⟩
      have nhB := B2.fresh hhh
      have nhD : hh ≠ DD := (ne_of_none hd hhh).symm
      generalize gX : upd _ hh _ = H3
      have s3 := newS hhh gX
      have eh := newE gX
      clear gX
      refine ⟨_, rfl, a, bl, _, rfl, rfl, by decide, by decide, B2.same s3, fun w H4 w0 w1 B4 k4 => ?_⟩
      have hd4 := k4 _ _ (s3 _ _ hd) nD
      have eh4 := k4 _ _ eh nhB
      have k04 : But [a, bl] H H4 := ((k1.trans k2).trans (But.same s3)).trans k4
      have t04 := B.tup k04
      have S4 : SideAt K H4 p q F G D := S.keepN t04 (ButN.of k04) (fun x hx y => (nB x y).1 hx) (fun x hx y => (nB x y).2 hx)
      have T4 := tabs_but TT k04 B.free
      have w04 : ButN (a :: bl :: (F ++ G)) H H4 := (ButN.of k04).wide (by intro y hy; simp only [List.mem_cons, List.not_mem_nil, or_false] at hy; rcases hy with rfl | rfl <;> simp)
      have h0 : H hh = none := none_of_but k1 (none_of_but k2 hhh nhB) nhB
      have thB : ∀ y ∈ [a, bl], ∃ u, H4 y = some u ∧ ∀ ps, u ≠ .tbl ps := fun y hy => by
        obtain ⟨ns, st, b1, b2, _⟩ := id B4.ex
        simp only [List.mem_cons, List.not_mem_nil, or_false] at hy
        rcases hy with rfl | rfl
        · exact ⟨_, b1, free_lst.1⟩
        · exact ⟨_, b2, free_lst.1⟩
      have o4 : ∀ {Z Z' : List Addr}, OwnN Z Z' H4 → OwnN Z Z' H := fun o => o.from_ (ButN.of k04) thB
      have fin : ∀ (H9 : Hp) (F' G' : List Addr) (D' : DiskM) (x6 : Option V), SideAt K H9 p q F' G' D' → Box H9 a bl → Tabs (tabs Lms_k11 K) H9 → D'.waiting.length ≤ D.waiting.length + 1 → TupLe H4 H9 → ButN (a :: bl :: (F ++ G)) H4 H9 → OwnN (F ++ G) F' H → OwnN (F ++ G) G' H → hh ∉ F' → hh ∉ G' → H9 DD = some (.lst (ks.map V.bl)) → H9 hh = some (.lst (ks.map V.bl)) →
          (tSeq (tAsg (tOp (rEqD K) (tVar 4) (tVar 3)) (gName 7)) (tSeq (tDrop (tBM K "list" rAppend (tVar 4) (tConsC (.bl true) tNil))) (tRet (tVar 7)))) { nx := fun _ H' => Q .non H', rt := Q } [some (.ref a), some (.ref p), some (.ref q), some (.ref DD), some (.ref hh), some (.int w), x6, none, none] H9 := fun H9 F' G' D' x6 S9 B9 T9 le t9 w9 oF oG nF nG ed9 eh9 => by
        have okb := bools_ok ks (by omega)
        refine ⟨_, rfl, _, rfl, _, _, bools_dp eh9, bools_dp ed9, okb.shaped (by decide), okb.shaped (by decide), ?_⟩
        rw [okb.eqv]
        refine ⟨_, rfl, .inl ⟨rfl, _, SqL.of eh9⟩, _, _, _, rfl, rfl, eh9, szlt (by rw [List.length_map]; omega), _, rfl, ?_⟩
        have kh : But [hh] H9 (upd H9 hh (.lst (ks.map V.bl ++ [.bl true]))) := (But.refl _ _).put (by simp)
        have th : TupLe H9 (upd H9 hh (.lst (ks.map V.bl ++ [.bl true]))) := (TupLe.refl _).list eh9
        have n1 : ∀ {Z : List Addr}, hh ∉ Z → ∀ x ∈ Z, x ∉ [hh] := fun n x hx z => n (by rw [← List.mem_singleton.mp z]; exact hx)
        refine k _ F' G' D' (S9.keepN th (ButN.of kh) (n1 nF) (n1 nG)) (B9.keepN (ButN.of kh) (n1 nhB)) (tabs_but T9 kh fun x hx u hu => by rw [List.mem_singleton.mp hx, eh9] at hu; cases hu; exact free_lst) le ((t04.trans t9).trans th) ?_ oF oG
        intro x u hx n m
        have xh : x ≠ hh := fun z => by rw [z, h0] at hx; cases hx
        rw [upd_ne xh]
        exact w9 x u (w04 x u hx n m) n m
      have nDF : DD ∉ F := fun z => by
        obtain ⟨u, hu⟩ := (S.disk.keepN (B.tup k1) (ButN.of k1) fun x hx y => (nB x y).1 hx).there DD z
        rw [hD] at hu
        cases hu
      have nDG : DD ∉ G := fun z => by
        obtain ⟨u, hu⟩ := (S.own.keepN (B.tup k1) (ButN.of k1) fun x hx y => (nB x y).2 hx).there DD z
        rw [hD] at hu
        cases hu
      have nhF : hh ∉ F := fun z => by
        obtain ⟨u, hu⟩ := S.disk.there hh z
        rw [h0] at hu
        cases hu
      have nhG : hh ∉ G := fun z => by
        obtain ⟨u, hu⟩ := S.own.there hh z
        rw [h0] at hu
        cases hu
      have dis' : ∀ x ∈ G, x ∉ F := fun x h1 h2 => S.dis x h2 h1
      obtain ⟨_, _, _, _, ⟨dx, eo⟩, _⟩ := id S4.disk.ex
      refine ⟨_, rfl, _, _, rfl, rfl, _, rfl, ?_⟩
      by_cases c2 : w < 2
      · rw [decide_eq_true c2]
        obtain ⟨M, hM, M0, M1⟩ : ∃ M : Int, ([V.int 3, V.int 20])[w.toNat]? = some (V.int M) ∧ 0 < M ∧ M ≤ 20 := by
          obtain rfl | rfl : w = 0 ∨ w = 1 := by omega
          · exact ⟨3, rfl, by decide, by decide⟩
          · exact ⟨20, rfl, by decide, by decide⟩
        refine ⟨_, rfl, szle (by show 2 ≤ 100000; decide), fun c hc => ?_⟩
        generalize gX : upd _ c _ = H5
        have s5 := newS hc gX
        have ec := newE gX
        clear gX
        refine ⟨_, rfl, ixL ec (j := w.toNat) (by omega) hM ⟨a, bl, _, rfl, rfl, M0, by omega, B4.same s5, fun r H6 r0 r1 B6 k6 => ?_⟩⟩
        have k46 : But [a, bl] H4 H6 := (But.same s5).trans k6
        have t46 := B4.tup k46
        have S6 : SideAt K H6 p q F G D := S4.keepN t46 (ButN.of k46) (fun x hx y => (nB x y).1 hx) (fun x hx y => (nB x y).2 hx)
        have T6 := tabs_but T4 k46 B4.free
        have hd6 := k46 _ _ hd4 nD
        have eh6 := k46 _ _ eh4 nhB
        have th6 : ∀ y ∈ [a, bl], ∃ u, H6 y = some u ∧ ∀ ps, u ≠ .tbl ps := fun y hy => by
          obtain ⟨ns, st, b1, b2, _⟩ := id B6.ex
          simp only [List.mem_cons, List.not_mem_nil, or_false] at hy
          rcases hy with rfl | rfl
          · exact ⟨_, b1, free_lst.1⟩
          · exact ⟨_, b2, free_lst.1⟩
        have o6' : ∀ {Z Z' : List Addr}, OwnN Z Z' H6 → OwnN Z Z' H4 := fun o => o.from_ (ButN.of k46) th6
        obtain ⟨n, hn⟩ : ∃ n : Nat, r = (n : Int) := ⟨r.toNat, by omega⟩
        have w46 : ∀ {H9 : Hp}, ButN (F ++ G) H6 H9 → ButN (a :: bl :: (F ++ G)) H4 H9 := fun g => ((ButN.of k46).wide (by intro y hy; simp only [List.mem_cons, List.not_mem_nil, or_false] at hy; rcases hy with rfl | rfl <;> simp)).trans (g.wide fun y hy => List.mem_cons_of_mem _ (List.mem_cons_of_mem _ hy))
        obtain ⟨ls, lw, lp, eG, e0, L1, L2, e3, n1, n2, n3⟩ := id S6.own.ex
        refine ow_get (i := 2) e0 rfl owK_fallen ⟨_, rfl, ?_⟩
        obtain ⟨_, _, _, _, ⟨dx6, eo6⟩, _⟩ := id S6.disk.ex
        cases dn : D.down with
        | true =>
          refine ⟨_, rfl, p, dx6, _, rfl, eo6, no_Disk_arm, _, rfl, _, rfl, p, F, D, n, hh, ks, rfl, S6.disk, by rw [hn], rfl, eh6, nhF, fun H7 F7 A7 k7 o7 => ?_⟩
          rw [dn, if_pos rfl] at A7
          obtain ⟨g1, g2, g3, g4, g5, g6, g7⟩ := both S6 S6.own (But.refl _ _) (Own.refl _ _) A7 k7 o7 S.neat B6 nB T6
          exact fin H7 F7 G _ _ g1 g2 g3 (by omega) (t46.trans g4) (w46 g5) (o4 (o6' g6)) (o4 (o6' g7)) (o7.not nhF eh6) nhG (k7 _ _ hd6 nDF) (k7 _ _ eh6 nhF)
        | false =>
          have nDs : ls ≠ DD := fun z => nDG (by rw [eG, ← z]; simp)
          have nDw : lw ≠ DD := fun z => nDG (by rw [eG, ← z]; simp)
          have nDq : q ≠ DD := fun z => nDG (by rw [eG, ← z]; simp)
          obtain ⟨sv, es, _⟩ := id L1
          obtain ⟨wv, ew, _⟩ := id L2
          have nqs : q ≠ ls := ne_of e0 es (by intro z; cases z)
          have nqw : q ≠ lw := ne_of e0 ew (by intro z; cases z)
          refine ⟨_, rfl, _, rfl, q, _, rfl, .inl ⟨_, Sum.inr "left", e0, rfl, szlt (by show 5 < 100000; decide), rfl⟩, ?_⟩
          rw [owP_left]
          generalize gX : upd _ q _ = H7
          have b7 := putB gX
          have e7 := newE gX
          have t7 := putT e0 (by intro _ z; cases z) gX
          clear gX
          refine ⟨_, rfl, _, rfl, q, _, rfl, .inl ⟨_, Sum.inr "picks", e7, rfl, szlt (by show 5 < 100000; decide), rfl⟩, ?_⟩
          rw [owP_picks]
          generalize gX : upd _ q _ = H8
          have b8 := putB gX
          have e8 := newE gX
          have t8 := putT e7 (by intro _ z; cases z) gX
          clear gX
          have b68 : But [q] H6 H8 := b7.trans b8
          have t68 := t7.trans t8
          have k68 : But G H6 H8 := b68.wide (by rw [eG]; simp)
          have o68 : Own G [q, ls, lw, DD] H6 → True := fun _ => trivial
          have a8 : OwnAt H8 q [q, ls, lw, DD] ⟨D.settled, D.waiting, some n, ks, false⟩ := ⟨⟨ls, lw, DD, rfl, by rw [e8, dn, hn]; rfl, L1.keep DtAt.st t68 fun o e => b68 _ _ e (ne1 nqs.symm), L2.keep WtAt.st t68 fun o e => b68 _ _ e (ne1 nqw.symm), b68 _ _ hd6 (ne1 nDq.symm), n1, nDs, nDw⟩, S6.own.len, S6.own.few, S6.own.at_⟩
          have d8 := S6.disk.keepN (S6.own.tup k68) (ButN.of k68) S6.dis
          have eh8 := k68 _ _ eh6 nhG
          have ed8 := k68 _ _ hd6 nDG
          obtain ⟨_, _, _, _, ⟨dx8, eo8⟩, _⟩ := id d8.ex
          refine ⟨_, rfl, p, dx8, _, rfl, eo8, no_Disk_arm, _, rfl, _, rfl, p, F, D, n, hh, ks, rfl, d8, by rw [hn], rfl, eh8, nhF, fun H9 F9 A9 k9 o9 => ?_⟩
          rw [dn, if_neg Bool.false_ne_true] at A9
          have nG8 : ∀ x ∈ [q, ls, lw, DD], x ∉ F := fun x hx => by
            simp only [List.mem_cons, List.not_mem_nil, or_false] at hx
            rcases hx with rfl | rfl | rfl | rfl
            · exact dis' _ (by rw [eG]; simp)
            · exact dis' _ (by rw [eG]; simp)
            · exact dis' _ (by rw [eG]; simp)
            · exact nDF
          obtain ⟨g1, g2, g3, g4, g5, g6⟩ := both2 S6 a8 k68 nG8 A9 k9 o9 ⟨S.neatS, S.neatW, by show ks.length ≤ 100; omega⟩ B6 nB T6
          refine fin H9 F9 _ _ _ g1 g2 g3 (Nat.le_succ _) (t46.trans g4) (w46 g5) (o4 (o6' g6)) (fun x hx => ?_) (o9.not nhF eh8) (fun z => ?_) (k9 _ _ ed8 nDF) (k9 _ _ eh8 nhF)
          · by_cases e : x = DD
            · subst e
              refine .inr fun u hu => ?_
              have hD0 : H x = none := none_of_but k1 hD nD
              rw [hD0] at hu
              cases hu
            · refine .inl (List.mem_append_right _ ?_)
              rw [eG]
              simp only [List.mem_cons, List.not_mem_nil, or_false] at hx ⊢
              rcases hx with rfl | rfl | rfl | rfl
              · exact .inl rfl
              · exact .inr (.inl rfl)
              · exact .inr (.inr (.inl rfl))
              · exact (e rfl).elim
          · simp only [List.mem_cons, List.not_mem_nil, or_false] at z
            rcases z with e | e | e | e
            · exact nhG (by rw [eG, e]; simp)
            · exact nhG (by rw [eG, e]; simp)
            · exact nhG (by rw [eG, e]; simp)
            · exact nhD e
      · rw [decide_eq_false c2]
        refine ⟨_, rfl, rfl, _, rfl, ?_⟩
        by_cases c3 : V.int w = V.int 2
        · rw [decide_eq_true c3]
          refine ⟨_, rfl, _, rfl, q, G, D, DD, ks, rfl, S4.own, rfl, hd4, by omega, fun H5 G5 A5 k5 o5 => ?_⟩
          have d5 := S4.disk.keepN (S4.own.tup k5) (ButN.of k5) S4.dis
          have eh5 := k5 _ _ eh4 nhG
          have ed5 := k5 _ _ hd4 nDG
          obtain ⟨_, _, _, _, ⟨dx5, eo5⟩, _⟩ := id d5.ex
          refine ⟨_, rfl, p, dx5, _, rfl, eo5, no_Disk_stop, _, rfl, p, F, D, hh, ks, rfl, d5, rfl, eh5, fun H6 F6 A6 k6 o6 => ?_⟩
          obtain ⟨g1, g2, g3, g4, g5, g6, g7⟩ := both S4 A5 k5 o5 A6 k6 o6 (S.neat.fall ks) B4 nB T4
          exact fin H6 F6 G5 _ _ g1 g2 g3 (Nat.zero_le _) g4 (g5.wide fun y hy => List.mem_cons_of_mem _ (List.mem_cons_of_mem _ hy)) (o4 g6) (o4 g7) (o6.not nhF eh5) (o5.not nhG eh4) (k6 _ _ ed5 nDF) (k6 _ _ eh5 nhF)
        · rw [decide_eq_false c3]
          obtain ⟨ls, lw, lp, eG, e0, L1, ⟨wv, ew, pw⟩, e3, n1, n2, n3⟩ := id S4.own.ex
          obtain ⟨sv, es, ps⟩ := id L1
          have nqs : q ≠ ls := ne_of e0 es (by intro z; cases z)
          have ty : tyV K "dict" (.ref q) H4 := .inr (.inr (.inl ⟨rfl, .inl ⟨_, e0⟩⟩))
          refine ⟨_, rfl, ty, sz0, fun p1 h1 => ?_⟩
          generalize gX : upd _ p1 _ = H5
          have s5 := newS h1 gX
          have e5 := newE gX
          clear gX
          refine ⟨szle (by show 2 ≤ 100000; decide), fun p2 h2 => ?_⟩
          generalize gX : upd _ p2 _ = H6
          have s6 := newS h2 gX
          have e6 := newE gX
          clear gX
          refine ⟨szle (by show 2 ≤ 100000; decide), fun p3 h3 => ?_⟩
          generalize gX : upd _ p3 _ = H7
          have s7 := newS h3 gX
          have e7 := newE gX
          clear gX
          refine ⟨sz0, fun p4 h4 => ?_⟩
          generalize gX : upd _ p4 _ = H8
          have s8 := newS h4 gX
          have e8 := newE gX
          clear gX
          refine ⟨szle (by show 2 ≤ 100000; decide), fun p5 h5 => ?_⟩
          generalize gX : upd _ p5 _ = H9
          have s9 := newS h5 gX
          have e9 := newE gX
          clear gX
          refine ⟨szle (by show 2 ≤ 100000; decide), fun p6 h6 => ?_⟩
          generalize gX : upd _ p6 _ = HA
          have sA := newS h6 gX
          have eA := newE gX
          clear gX
          refine ⟨szle (by show 4 ≤ 100000; decide), fun p7 h7 => ?_⟩
          generalize gX : upd _ p7 _ = HB
          have sB := newS h7 gX
          have eB := newE gX
          clear gX
          have s4B : Same H4 HB := ((((((s5.trans s6).trans s7).trans s8).trans s9).trans sA).trans sB)
          have e0B := s4B _ _ e0
          have f1 := sB _ _ (sA _ _ (s9 _ _ (s8 _ _ (s7 _ _ (s6 _ _ e5)))))
          have f2 := sB _ _ (sA _ _ (s9 _ _ (s8 _ _ (s7 _ _ e6))))
          have f3 := sB _ _ (sA _ _ (s9 _ _ (s8 _ _ e7)))
          have f4 := sB _ _ (sA _ _ (s9 _ _ e8))
          have f5 := sB _ _ (sA _ _ e9)
          have f6 := sB _ _ eA
          have z1 : H4 p1 = none := h1
          have z4 : H4 p4 = none := s5.free (s6.free (s7.free h4))
          have nq1 : q ≠ p1 := ne_of_none e0 z1
          have nq4 : q ≠ p4 := ne_of_none e0 z4
          have ns1 : ls ≠ p1 := ne_of_none es z1
          have ns4 : ls ≠ p4 := ne_of_none es z4
          have n14 : p1 ≠ p4 := ne_of_none (s7 _ _ (s6 _ _ e5)) h4
          refine ⟨q, p7, [p2, p3, p5, p6], _, [(Sum.inr "pending", .ref p1), (Sum.inr "left", .non), (Sum.inr "picks", .ref p4), (Sum.inr "fallen", .bl false)], rfl, rfl, e0B, SqL.of eB, .cons (SqT.of f2) (.cons (SqT.of f3) (.cons (SqT.of f5) (.cons (SqT.of f6) .nil))), szle (by show 5 + 4 ≤ 100000; decide), ?_⟩
          have em : mergeK (ownK ls lw (leftV D.left) lp D.down) [(Sum.inr "pending", .ref p1), (Sum.inr "left", .non), (Sum.inr "picks", .ref p4), (Sum.inr "fallen", .bl false)] = ownK ls p1 .non p4 false := by
            show putK (putK (putK (putK (ownK ls lw (leftV D.left) lp D.down) (Sum.inr "pending") (.ref p1)) (Sum.inr "left") .non) (Sum.inr "picks") (.ref p4)) (Sum.inr "fallen") (.bl false) = _
            rw [owP_pending, owP_left, owP_picks, owP_fallen]
          rw [em]
          generalize gX : upd _ q _ = HC
          have bC := putB gX
          have eC := newE gX
          have tC := putT e0B (by intro _ z; cases z) gX
          clear gX
          have kC : But G H4 HC := (But.same s4B).trans (bC.wide (by rw [eG]; simp))
          have oC : Own G [q, ls, p1, p4] H4 := by
            intro x hx
            rw [eG]
            simp only [List.mem_cons, List.not_mem_nil, or_false] at hx ⊢
            rcases hx with rfl | rfl | rfl | rfl
            · exact .inl (.inl rfl)
            · exact .inl (.inr (.inl rfl))
            · exact .inr z1
            · exact .inr z4
          have aC : OwnAt HC q [q, ls, p1, p4] ⟨D.settled, [], none, [], false⟩ := ⟨⟨ls, p1, p4, rfl, eC, (L1.same DtAt.st s4B).keep DtAt.st tC fun o e => bC _ _ e (ne1 nqs.symm), ⟨[], bC _ _ f1 (ne1 nq1.symm), .nil⟩, bC _ _ f4 (ne1 nq4.symm), ns1, ns4, n14⟩, S4.own.len, Nat.zero_le _, fun y hy => by simp at hy⟩
          have dC := S4.disk.keepN (S4.own.tup kC) (ButN.of kC) S4.dis
          have ehC := kC _ _ eh4 nhG
          have edC := kC _ _ hd4 nDG
          obtain ⟨_, _, _, _, ⟨dxC, eoC⟩, _⟩ := id dC.ex
          refine ⟨_, rfl, p, dxC, _, rfl, eoC, no_Disk_again, p, F, D, rfl, dC, fun H6 F6 A6 k6 o6 => ?_⟩
          obtain ⟨g1, g2, g3, g4, g5, g6, g7⟩ := both S4 aC kC oC A6 k6 o6 ⟨S.neatS, fun y hy => by simp at hy, Nat.zero_le _⟩ B4 nB T4
          exact fin H6 F6 _ _ _ g1 g2 g3 (Nat.zero_le _) g4 (g5.wide fun y hy => List.mem_cons_of_mem _ (List.mem_cons_of_mem _ hy)) (o4 g6) (o4 g7) (o6.not nhF ehC) (oC.not nhG eh4) (k6 _ _ edC nDF) (k6 _ _ ehC nhF)
end Rs

namespace Rs
open PySem PySem.Spec PyProof.Rows L2
open LamX
abbrev N_law : List Str := ["_law_script", "_law_box", "_law_sides", "_law_turn", "_law_disk", "_law_own", "_law_way", "_law_good", "_law_due", "_law_block", "_law_what_here"]
abbrev P_law : List Str := ["_law_script"]
def sp_law (K : PySem.W.Frag) : Sp := fun vs H Q E => match vs with
  | [s] => ∃ (p : Addr) (ns : List Int), s = .ref p ∧ SqL K H p (ns.map V.int) ∧ ns.length ≤ 63 ∧ Tabs (tabs Lms_k11 K) H ∧ ∀ H', Q (.bl true) H'
  | _ => False
def t_law (K : PySem.W.Frag) (E : XK) : TS := (tSeq (tAsg (tCall (sp_law_begun K) [] E (tCons (tVar 0) tNil)) (gName 1))
  (tSeq (tAsg (tLst (tCons (tTup (tCons (tMake (He.ga K "Disk") (sp_Disk___init__ K) [] E tNil) (tCons (tCall (sp_law_made K) [] E tNil) tNil))) (tCons (tTup (tCons (tMake (He.ga K "Disk") (sp_Disk___init__ K) [] E tNil) (tCons (tCall (sp_law_made K) [] E tNil) tNil))) tNil))) (gName 2))
   (tSeq (tFor (iRng1 (tCons (tCall (sp_law_take K) [] E (tCons (tVar 1) (tConsC (.int 81) tNil))) tNil)) (gName 3) 
      (tSeq (tAsg (tOp (rIxL K) (tVar 2) (tOpC xDiv (tCall (sp_law_take K) [] E (tCons (tVar 1) (tConsC (.int 4) tNil))) (.int 3))) (gTup K 2 (gCons (gName 4) (gCons (gName 5) gNil))))
      (tSeq (tAsg (tCall (sp_law_take K) [] E (tCons (tVar 1) (tConsC (.int 10) tNil))) (gName 6))
       (tSeq (tIfS (tTest (tOpC xLt (tVar 6) (.int 6))) (tAsg (tCall (sp_law_write K) [] E (tCons (tVar 1) (tCons (tVar 4) (tCons (tVar 5) tNil)))) (gName 7)) 
          (tIfS (tTest (tOpC xLt (tVar 6) (.int 8))) 
            (tSeq (tAsg (tIf (tB (tCall (sp_law_count K) [] E (tCons (tVar 5) tNil))) (tC .non) (tTup (tConsC (.str "Stopped") (tConsC (.int 0) tNil)))) (gName 8))
            (tSeq (tIfS (tTest (tOpC rIsN (tVar 8) .non)) 
               (tSeq (tFor (iList K (tDGet (tVar 5) (tC (.str "pending")))) (gTup K 2 (gCons (gName 9) (gCons (gName 10) gNil))) (tAsg (tVar 10) (gSub (tDGet (tVar 5) (tC (.str "settled"))) (tVar 9) rSetL)))
               (sDPut (tVar 5) (tC (.str "pending")) (tLst tNil))) tNext)
             (tAsg (tCall (sp_law_alike K) [] E (tCons (tLam (tabs Lms_k11 K) (TTold K) (fun E => (tMeth (He.ga K "Disk") "settle" (sp_Disk_settle K) [] E (tVar 4) tNil))) (tCons (tVar 8) tNil))) (gName 7)))) (tAsg (tCall (sp_law_arms K) [] E (tCons (tVar 1) (tCons (tVar 4) (tCons (tVar 5) tNil)))) (gName 7))))
        (tIfS (tOr (tNot (tB (tVar 7))) (tOr (tNot (tB (tCall (sp_law_is K) [] E (tCons (tVar 1) (tCons (tOpC (rIxT K) (tOpC (rIxL K) (tVar 2) (.int 0)) (.int 0)) (tCons (tOpC (rIxT K) (tOpC (rIxL K) (tVar 2) (.int 0)) (.int 1)) tNil)))))) (tNot (tB (tCall (sp_law_is K) [] E (tCons (tVar 1) (tCons (tOpC (rIxT K) (tOpC (rIxL K) (tVar 2) (.int 1)) (.int 0)) (tCons (tOpC (rIxT K) (tOpC (rIxL K) (tVar 2) (.int 1)) (.int 1)) tNil)))))))) (tRet (tC (.bl false))) tNext)))))
    (tRet (tC (.bl true))))))
structure Two (K : PySem.W.Frag) (H : Hp) (a bl p1 q1 p2 q2 : Addr) (F1 G1 F2 G2 : List Addr) (D1 D2 : DiskM) : Prop where
  s1 : SideAt K H p1 q1 F1 G1 D1
  s2 : SideAt K H p2 q2 F2 G2 D2
  b : Box H a bl
  t : Tabs (tabs Lms_k11 K) H
  n1 : ∀ x ∈ [a, bl], x ∉ F1 ∧ x ∉ G1
  n2 : ∀ x ∈ [a, bl], x ∉ F2 ∧ x ∉ G2
  ap : ∀ x ∈ F1 ++ G1, x ∉ F2 ++ G2
theorem Two.turn {K : PySem.W.Frag} {H : Hp} {a bl p1 q1 p2 q2 : Addr} {F1 G1 F2 G2 : List Addr} {D1 D2 : DiskM} (h : Two K H a bl p1 q1 p2 q2 F1 G1 F2 G2 D1 D2) : Two K H a bl p2 q2 p1 q1 F2 G2 F1 G1 D2 D1 :=
  ⟨h.s2, h.s1, h.b, h.t, h.n2, h.n1, fun x h1 h2 => h.ap x h2 h1⟩
theorem SideAt.free {K : PySem.W.Frag} {H : Hp} {p q : Addr} {F G : List Addr} {D : DiskM} (h : SideAt K H p q F G D) : Free (F ++ G) H := fun x hx => (List.mem_append.mp hx).elim (fun m => h.disk.free x m) fun m => h.own.free x m
theorem SideAt.there {K : PySem.W.Frag} {H : Hp} {p q : Addr} {F G : List Addr} {D : DiskM} (h : SideAt K H p q F G D) : ∀ x ∈ F ++ G, ∃ u, H x = some u := fun x hx => (List.mem_append.mp hx).elim (fun m => h.disk.there x m) fun m => h.own.there x m
theorem Box.there {H : Hp} {a l : Addr} (b : Box H a l) : ∀ x ∈ [a, l], ∃ u, H x = some u := fun x hx => by
  obtain ⟨ns, st, e1, e2, _⟩ := b.ex
  simp only [List.mem_cons, List.not_mem_nil, or_false] at hx
  rcases hx with rfl | rfl
  · exact ⟨_, e1⟩
  · exact ⟨_, e2⟩
theorem Two.after {K : PySem.W.Frag} {H H' : Hp} {a bl p1 q1 p2 q2 : Addr} {F1 G1 F2 G2 F' G' : List Addr} {D1 D2 D' : DiskM} (h : Two K H a bl p1 q1 p2 q2 F1 G1 F2 G2 D1 D2) (S' : SideAt K H' p1 q1 F' G' D') (B' : Box H' a bl) (T' : Tabs (tabs Lms_k11 K) H') (t : TupLe H H') (k : ButN (a :: bl :: (F1 ++ G1)) H H')
    (oF : OwnN (F1 ++ G1) F' H) (oG : OwnN (F1 ++ G1) G' H) : Two K H' a bl p1 q1 p2 q2 F' G' F2 G2 D' D2 := by
  have out : ∀ x ∈ F2 ++ G2, x ∉ a :: bl :: (F1 ++ G1) := fun x hx z => by
    rcases List.mem_cons.mp z with e | z
    · rcases List.mem_append.mp hx with m | m
      · exact (h.n2 a (by simp)).1 (e ▸ m)
      · exact (h.n2 a (by simp)).2 (e ▸ m)
    · rcases List.mem_cons.mp z with e | z
      · rcases List.mem_append.mp hx with m | m
        · exact (h.n2 bl (by simp)).1 (e ▸ m)
        · exact (h.n2 bl (by simp)).2 (e ▸ m)
      · exact h.ap x z hx
  have dB : ∀ x ∈ F1 ++ G1, x ∉ [a, bl] := fun x hx z => (List.mem_append.mp hx).elim (h.n1 x z).1 (h.n1 x z).2
  have fB := oF.out h.b.free h.b.there dB
  have gB := oG.out h.b.free h.b.there dB
  have f2 := oF.out h.s2.free h.s2.there h.ap
  have g2 := oG.out h.s2.free h.s2.there h.ap
  exact ⟨S', h.s2.keepN t k (fun x hx => out x (List.mem_append_left _ hx)) fun x hx => out x (List.mem_append_right _ hx), B', T', fun x hx => ⟨fun z => fB x z hx, fun z => gB x z hx⟩, h.n2, fun x hx => (List.mem_append.mp hx).elim (f2 x) (g2 x)⟩
theorem Two.boxed {K : PySem.W.Frag} {H H' : Hp} {a bl p1 q1 p2 q2 : Addr} {F1 G1 F2 G2 : List Addr} {D1 D2 : DiskM} (h : Two K H a bl p1 q1 p2 q2 F1 G1 F2 G2 D1 D2) (B' : Box H' a bl) (T' : Tabs (tabs Lms_k11 K) H') (t : TupLe H H') (k : ButN [a, bl] H H') : Two K H' a bl p1 q1 p2 q2 F1 G1 F2 G2 D1 D2 :=
  ⟨h.s1.keepN t k (fun x hx z => (h.n1 x z).1 hx) (fun x hx z => (h.n1 x z).2 hx), h.s2.keepN t k (fun x hx z => (h.n2 x z).1 hx) (fun x hx z => (h.n2 x z).2 hx), B', T', h.n1, h.n2, h.ap⟩
theorem disk_new {K : PySem.W.Frag} {H : Hp} {C : VK} {E : XK} {pd dx : Addr} (hp : H pd = none) (hdx : H dx = none) (nd : dx ≠ pd) (k : ∀ Fd H', DiskAt K H' pd Fd newDisk → (∀ x ∈ Fd, H x = none) → Same H H' → C .non H') : sp_Disk___init__ K [.ref pd] (upd (upd H dx (.own pd)) pd (.ins (He.ga K "Disk") dx [])) C E := by
  generalize gX : upd _ pd _ = H1
  have s1 := mkS hp hdx nd gX
  have e1 := newE gX
  clear gX
  refine ⟨pd, dx, rfl, e1, fun H' Fd D b o => k Fd H' D (fun x hx => ?_) ?_⟩
  · rcases o x hx with z | z
    · rw [List.mem_singleton.mp z]; exact hp
    · exact s1.free z
  · intro x u e
    exact b x u (s1 _ _ e) fun z => by rw [List.mem_singleton.mp z, hp] at e; cases e
theorem sEnd {K : PySem.W.Frag} {E : XK} {H : Hp} {Q : VK} {p t : Addr} {dv : V} {F : List Addr} {D : DiskM} {σ : L2.St} (eS : ErrIs K "Stopped") (A : DiskAt K H p F D) (TT : Tabs (tabs Lms_k11 K) H) (h4 : σ[4]? = some (some (.ref p))) (h8 : σ[8]? = some (some dv))
    (hd : if (D.does .st).2 = true then dv = .ref t ∧ H t = some (.tup [.str "Stopped", .int 0]) else dv = .non)
    (k : ∀ H' F', DiskAt K H' p F' (D.does .st).1 → TupLe H H' → ButN F H H' → OwnN F F' H → Tabs (tabs Lms_k11 K) H' → Q (.bl true) H') : (tCall (sp_law_alike K) [] E (tCons (tLam (tabs Lms_k11 K) (TTold K) (fun E => (tMeth (He.ga K "Disk") "settle" (sp_Disk_settle K) [] E (tVar 4) tNil))) (tCons (tVar 8) tNil))) σ H Q := by
  refine told_by TT fun H1 x1 T1 => ?_
  have t1 := extN_tup x1
  have A1 := A.keepN t1 (ButN.ext (F := []) x1) (fun _ _ z => nomatch z)
  obtain ⟨ls, lw, lp, _, ⟨dx, eo⟩, _⟩ := id A1.ex
  refine ⟨_, h4, p, dx, _, rfl, eo, no_Disk_settle, p, F, D, rfl, A1, ?_⟩
  intro H2 F2 A2 k2 o2
  have t2 : TupLe H1 H2 := A1.tup k2
  have T2 := tabs_but T1 k2 A1.free
  have o02 : OwnN F F2 H := OwnN.of o2 (ButN.ext (F := []) x1) (fun _ z => nomatch z)
  cases e2 : (D.does .st).2 with
  | true =>
    rw [e2, if_pos rfl] at hd
    obtain ⟨rfl, et⟩ := hd
    rw [if_pos rfl]
    refine rErr_plain eS (by decide) fun u H3 hu s3 eu => ⟨_, h8, alike_err (E := E) eu (s3 _ _ (t2 _ _ (t1 _ _ et))) (k H3 F2 (A2.same s3) ((t1.trans t2).trans (TupLe.same s3)) (((ButN.ext x1).trans (ButN.of k2)).trans (ButN.of (But.same s3))) o02 (tabs_same T2 s3))⟩
  | false =>
    rw [e2, if_neg (by decide)] at hd
    subst hd
    rw [if_neg (by decide)]
    exact ⟨_, h8, alike_non (E := E) (k H2 F2 A2 (t1.trans t2) ((ButN.ext x1).trans (ButN.of k2)) o02 T2)⟩
def tMid (K : PySem.W.Frag) (E : XK) : TS := (tIfS (tTest (tOpC xLt (tVar 6) (.int 6))) (tAsg (tCall (sp_law_write K) [] E (tCons (tVar 1) (tCons (tVar 4) (tCons (tVar 5) tNil)))) (gName 7)) 
          (tIfS (tTest (tOpC xLt (tVar 6) (.int 8))) 
            (tSeq (tAsg (tIf (tB (tCall (sp_law_count K) [] E (tCons (tVar 5) tNil))) (tC .non) (tTup (tConsC (.str "Stopped") (tConsC (.int 0) tNil)))) (gName 8))
            (tSeq (tIfS (tTest (tOpC rIsN (tVar 8) .non)) 
               (tSeq (tFor (iList K (tDGet (tVar 5) (tC (.str "pending")))) (gTup K 2 (gCons (gName 9) (gCons (gName 10) gNil))) (tAsg (tVar 10) (gSub (tDGet (tVar 5) (tC (.str "settled"))) (tVar 9) rSetL)))
               (sDPut (tVar 5) (tC (.str "pending")) (tLst tNil))) tNext)
             (tAsg (tCall (sp_law_alike K) [] E (tCons (tLam (tabs Lms_k11 K) (TTold K) (fun E => (tMeth (He.ga K "Disk") "settle" (sp_Disk_settle K) [] E (tVar 4) tNil))) (tCons (tVar 8) tNil))) (gName 7)))) (tAsg (tCall (sp_law_arms K) [] E (tCons (tVar 1) (tCons (tVar 4) (tCons (tVar 5) tNil)))) (gName 7))))
theorem mid {K : PySem.W.Frag} {E : XK} {EN : Ends} {H : Hp} {a bl p q ll : Addr} {F G : List Addr} {D : DiskM} {w : Int} {x0 x3 x7 x8 x9 x10 : Option V} (eStopped : ErrIs K "Stopped") (S : SideAt K H p q F G D) (B : Box H a bl) (TT : Tabs (tabs Lms_k11 K) H) (nB : ∀ x ∈ [a, bl], x ∉ F ∧ x ∉ G) (few : D.waiting.length < 99)
    (k : ∀ H' F' G' D' y8 y9 y10, SideAt K H' p q F' G' D' → Box H' a bl → Tabs (tabs Lms_k11 K) H' → D'.waiting.length ≤ D.waiting.length + 1 → TupLe H H' → ButN (a :: bl :: (F ++ G)) H H' → OwnN (F ++ G) F' H → OwnN (F ++ G) G' H →
      EN.nx [x0, some (.ref a), some (.ref ll), x3, some (.ref p), some (.ref q), some (.int w), some (.bl true), y8, y9, y10] H') :
    tMid K E EN [x0, some (.ref a), some (.ref ll), x3, some (.ref p), some (.ref q), some (.int w), x7, x8, x9, x10] H := by
  refine ⟨_, rfl, _, _, rfl, rfl, _, rfl, ?_⟩
  by_cases c6 : w < 6
  · rw [decide_eq_true c6]
    exact ⟨_, rfl, _, rfl, _, rfl, a, bl, p, q, F, G, D, rfl, B, rfl, rfl, S, TT, nB, few, fun H' F' G' D' S' B' T' le t b oF oG => k H' F' G' D' x8 x9 x10 S' B' T' le t b oF oG⟩
  rw [decide_eq_false c6]
  refine ⟨_, rfl, _, _, rfl, rfl, _, rfl, ?_⟩
  by_cases c8 : w < 8
  rotate_left
  · rw [decide_eq_false c8]
    exact ⟨_, rfl, _, rfl, _, rfl, a, bl, p, q, F, G, D, rfl, B, rfl, rfl, S, TT, nB, fun H' F' G' D' S' B' T' le t b oF oG => k H' F' G' D' x8 x9 x10 S' B' T' le t b oF oG⟩
  rw [decide_eq_true c8]
  have N := S.neat.st
  have dis' : ∀ x ∈ G, x ∉ F := fun x h1 h2 => S.dis x h2 h1
  have fin : ∀ (HC : Hp) (GA : List Addr) (dv : V) (t' : Addr) (y7 y9 y10 : Option V), OwnAt HC q GA (D.does .st).1 → TupLe H HC → But G H HC → Own G GA H → (if (D.does .st).2 = true then dv = .ref t' ∧ HC t' = some (.tup [.str "Stopped", .int 0]) else dv = .non) →
      (tAsg (tCall (sp_law_alike K) [] E (tCons (tLam (tabs Lms_k11 K) (TTold K) (fun E => (tMeth (He.ga K "Disk") "settle" (sp_Disk_settle K) [] E (tVar 4) tNil))) (tCons (tVar 8) tNil))) (gName 7)) EN [x0, some (.ref a), some (.ref ll), x3, some (.ref p), some (.ref q), some (.int w), y7, some dv, y9, y10] HC := fun HC GA dv t' y7 y9 y10 oC tC kC gC hd => by
    have dC : DiskAt K HC p F D := S.disk.keepN tC (ButN.of kC) S.dis
    have BC : Box HC a bl := B.keepN (ButN.of kC) fun x hx => (nB x hx).2
    have oGA : OwnN G GA H := OwnN.of gC (ButN.of (But.refl [] H)) (fun _ z => nomatch z)
    have nGA : ∀ x ∈ GA, x ∉ F := oGA.out S.disk.free S.disk.there dis'
    refine sEnd eStopped dC (tabs_but TT kC S.own.free) rfl rfl hd fun H' F' A' tt kk oo T' => ?_
    have nF' : ∀ x ∈ F', x ∉ GA := oo.out oC.free oC.there fun x h1 h2 => nGA x h2 h1
    refine k H' F' GA _ _ _ _ ⟨A', oC.keepN tt kk nGA, nF', N.1.s, N.1.w, N.1.p⟩ (BC.keepN kk fun x hx => (nB x hx).1) T' (Nat.le_succ_of_le N.2) (tC.trans tt) (((ButN.of kC).wide (by intro y hy; simp [hy])).trans (kk.wide (by intro y hy; simp [hy]))) (fun y hy => ?_) (oGA.wideL (by intro y hy; simp [hy]))
    rcases oo y hy with z | z
    · exact .inl (by simp [z])
    · by_cases g : y ∈ G
      · exact .inl (by simp [g])
      · exact .inr fun u hu => z u (kC y u hu g)
  refine ⟨_, rfl, q, G, D, rfl, S.own, S.picks, fun HA GA AA kA oA => ⟨_, rfl, ?_⟩⟩
  have tA : TupLe H HA := S.own.tup kA
  unfold DiskM.does at fin
  cases e2 : D.deed.2 with
  | true =>
    simp only [e2, ↓reduceIte] at fin
    refine ⟨szle (by show 2 ≤ 100000; decide), fun u hu => ?_⟩
    generalize gX : upd _ u _ = HB
    have sB := newS hu gX
    have eB := newE gX
    clear gX
    refine ⟨_, rfl, rfl, _, rfl, ?_⟩
    rw [decide_eq_false (show ¬ V.ref u = V.non from fun z => by cases z)]
    exact fin HB GA (.ref u) u _ _ _ (AA.same sB) (tA.trans (TupLe.same sB)) (kA.trans (But.same sB)) oA ⟨rfl, eB⟩
  | false =>
    simp only [e2, ↓reduceIte, Bool.false_eq_true] at fin
    refine ⟨_, rfl, rfl, _, rfl, ?_⟩
    rw [decide_eq_true (show V.non = V.non from rfl)]
    obtain ⟨ls, lw, lp, rfl, e0, L1, ⟨wv, ew, pw⟩, e3, n1, n2, n3⟩ := id AA.ex
    generalize D.deed.1 = D1 at *
    have lwl := pw.length
    have aw := AA.at_
    obtain ⟨sv, es, _⟩ := id L1
    have nqs : q ≠ ls := ne_of e0 es (by intro z; cases z)
    have nqw : q ≠ lw := ne_of e0 ew (by intro z; cases z)
    have nqp : q ≠ lp := ne_of e0 e3 (by intro z; cases z)
    refine ow_get (i := 5) e0 rfl owK_pending ⟨lw, rfl, ⟨_, SqL.of ew⟩, ?_⟩
    refine for_list (K := K) (a := lw) (xs := wv) (fun i σ H' => ∃ y9 y10, σ = [x0, some (.ref a), some (.ref ll), x3, some (.ref p), some (.ref q), some (.int w), x7, some .non, y9, y10] ∧ But [ls] HA H' ∧ Lst DtAt H' ls (setS D1.settled (D1.waiting.take i))) ⟨x9, x10, rfl, But.refl _ _, by rw [List.take_zero]; exact L1⟩ ?_ ?_ ?_
    · rintro i σ H' _ ⟨_, _, _, kk, _⟩
      exact SqL.of (kk _ _ ew (ne1 n1.symm))
    · rintro i v σ H2 hi ⟨y9, y10, rfl, kk, lv, el, pl⟩
      obtain ⟨⟨b, d⟩, hq, w', ⟨t, rfl, et⟩, hd⟩ := P2.get pw hi
      have bl' := aw _ (List.mem_of_getElem? hq)
      dsimp only at bl' et hd
      have t2 : TupLe HA H2 := kk.tupOf fun b hb => by
        rw [List.mem_singleton] at hb
        subst hb
        exact nt_lst es
      have fl := setS_len (D1.waiting.take i) D1.settled
      have lvl := pl.length
      have slen := AA.len
      have t3 : TupLe H2 (upd H2 ls (.lst (lv.set b w'))) := (TupLe.refl _).list el
      refine ⟨t, _, rfl, SqT.of (t2 _ _ et), rfl, _, _, rfl, _, _, rfl, rfl, ?_⟩
      refine ⟨_, rfl, ow_get (i := 5) (kk _ _ e0 (ne1 nqs)) rfl owK_settled ⟨_, rfl, ls, lv, _, b, rfl, rfl, el, ixN_nat (by omega), ?_⟩⟩
      refine ⟨_, _, rfl, kk.put (by simp), _, upd_same, ?_⟩
      rw [setS_take hq]
      exact P2.set (DtAt.st _ _ _ _ (t2.trans t3) hd) b (Paired.tl DtAt.st t3 pl)
    · rintro σ H2 ⟨y9, y10, rfl, kk, Ls⟩
      rw [List.take_of_length_le (by omega)] at Ls
      have t2 : TupLe HA H2 := kk.tupOf fun b hb => by
        rw [List.mem_singleton] at hb
        subst hb
        exact nt_lst es
      have e02 := kk _ _ e0 (ne1 nqs)
      obtain ⟨lva, els2, _⟩ := id Ls
      have elp2 := kk _ _ e3 (ne1 n2.symm)
      refine ⟨sz0, fun c hc => ?_⟩
      have nqc : q ≠ c := ne_of_none e02 hc
      have nsc : ls ≠ c := ne_of_none els2 hc
      have npc : lp ≠ c := ne_of_none elp2 hc
      have cA : HA c = none := none_of_but kk hc (ne1 nsc.symm)
      generalize gX : upd _ c _ = H3
      have s3 := newS hc gX
      have ec := newE gX
      clear gX
      have e03 := s3 _ _ e02
      refine ⟨_, rfl, q, _, rfl, .inl ⟨_, Sum.inr "pending", e03, rfl, szlt (by show 5 < 100000; decide), rfl⟩, ?_⟩
      rw [owP_pending]
      generalize gX : upd _ q _ = H4
      have b4 := putB gX
      have e4 := newE gX
      have t4 := putT e03 (by intro _ z; cases z) gX
      clear gX
      have k24 : But [q, ls, lw, lp] HA H4 := ((kk.wide (by simp)).trans (But.same s3)).trans (b4.wide (by simp))
      refine fin H4 [q, ls, c, lp] .non 0 _ _ _ ⟨⟨ls, c, lp, rfl, e4, (Ls.same DtAt.st s3).keep DtAt.st t4 fun o e => b4 _ _ e (ne1 nqs.symm), ⟨[], b4 _ _ ec (ne1 nqc.symm), .nil⟩, b4 _ _ (s3 _ _ elp2) (ne1 nqp.symm), nsc, n2, npc.symm⟩, by show (setS D1.settled D1.waiting).length = 600; rw [setS_len, AA.len], Nat.zero_le _, fun p hp => by simp [DiskM.act] at hp⟩ ((tA.trans t2).trans ((TupLe.same s3).trans t4)) (kA.own oA k24) (oA.trans ?_ kA) rfl
      intro x hx
      simp only [List.mem_cons, List.not_mem_nil, or_false] at hx ⊢
      rcases hx with rfl | rfl | rfl | rfl
      · exact .inl (.inl rfl)
      · exact .inl (.inr (.inl rfl))
      · exact .inr cA
      · exact .inl (.inr (.inr (.inr rfl)))
structure Sides (K : PySem.W.Frag) (H : Hp) (a bl p1 q1 p2 q2 ll t1 t2 : Addr) (F1 G1 F2 G2 : List Addr) (D1 D2 : DiskM) (n : Nat) : Prop where
  two : Two K H a bl p1 q1 p2 q2 F1 G1 F2 G2 D1 D2
  w1 : D1.waiting.length ≤ n
  w2 : D2.waiting.length ≤ n
  el : H ll = some (.lst [.ref t1, .ref t2])
  e1 : H t1 = some (.tup [.ref p1, .ref q1])
  e2 : H t2 = some (.tup [.ref p2, .ref q2])
  nl : ll ∉ [a, bl]
  n1 : ll ∉ F1 ++ G1
  n2 : ll ∉ F2 ++ G2
section
variable {K : PySem.W.Frag} {H H' : Hp} {a bl p1 q1 p2 q2 ll t1 t2 : Addr} {F1 G1 F2 G2 F' G' : List Addr} {D1 D2 D' : DiskM} {n : Nat}
theorem ll_out (el : H ll = some (.lst [.ref t1, .ref t2])) (n1 : ll ∉ F1) (o : OwnN F1 F' H) : ll ∉ F' := fun z => by
  rcases o ll z with m | m
  · exact n1 m
  · obtain ⟨ps, e⟩ := m _ el
    cases e
theorem Sides.boxed (h : Sides K H a bl p1 q1 p2 q2 ll t1 t2 F1 G1 F2 G2 D1 D2 n) (B' : Box H' a bl) (T' : Tabs (tabs Lms_k11 K) H') (t : TupLe H H') (k : ButN [a, bl] H H') : Sides K H' a bl p1 q1 p2 q2 ll t1 t2 F1 G1 F2 G2 D1 D2 n :=
  ⟨h.two.boxed B' T' t k, h.w1, h.w2, k _ _ h.el (fun _ z => by cases z) h.nl, t _ _ h.e1, t _ _ h.e2, h.nl, h.n1, h.n2⟩
theorem Sides.but (h : Sides K H a bl p1 q1 p2 q2 ll t1 t2 F1 G1 F2 G2 D1 D2 n) (B' : Box H' a bl) (k : But [a, bl] H H') : Sides K H' a bl p1 q1 p2 q2 ll t1 t2 F1 G1 F2 G2 D1 D2 n :=
  h.boxed B' (tabs_but h.two.t k h.two.b.free) (h.two.b.tup k) (ButN.of k)
theorem nl_all (nl : ll ∉ [a, bl]) (n1 : ll ∉ F1 ++ G1) : ll ∉ a :: bl :: (F1 ++ G1) := fun z => by
  rcases List.mem_cons.mp z with e | z
  · exact nl (by simp [e])
  · rcases List.mem_cons.mp z with e | z
    · exact nl (by simp [e])
    · exact n1 z
theorem Sides.one (h : Sides K H a bl p1 q1 p2 q2 ll t1 t2 F1 G1 F2 G2 D1 D2 n) (S' : SideAt K H' p1 q1 F' G' D') (B' : Box H' a bl) (T' : Tabs (tabs Lms_k11 K) H') (le : D'.waiting.length ≤ D1.waiting.length + 1) (t : TupLe H H') (k : ButN (a :: bl :: (F1 ++ G1)) H H')
    (oF : OwnN (F1 ++ G1) F' H) (oG : OwnN (F1 ++ G1) G' H) : Sides K H' a bl p1 q1 p2 q2 ll t1 t2 F' G' F2 G2 D' D2 (n + 1) :=
  ⟨h.two.after S' B' T' t k oF oG, by have := h.w1; omega, by have := h.w2; omega, k _ _ h.el (fun _ z => by cases z) (nl_all h.nl h.n1), t _ _ h.e1, t _ _ h.e2, h.nl, fun z => (List.mem_append.mp z).elim (ll_out h.el h.n1 oF) (ll_out h.el h.n1 oG), h.n2⟩
theorem Sides.other (h : Sides K H a bl p1 q1 p2 q2 ll t1 t2 F1 G1 F2 G2 D1 D2 n) (S' : SideAt K H' p2 q2 F' G' D') (B' : Box H' a bl) (T' : Tabs (tabs Lms_k11 K) H') (le : D'.waiting.length ≤ D2.waiting.length + 1) (t : TupLe H H') (k : ButN (a :: bl :: (F2 ++ G2)) H H')
    (oF : OwnN (F2 ++ G2) F' H) (oG : OwnN (F2 ++ G2) G' H) : Sides K H' a bl p1 q1 p2 q2 ll t1 t2 F1 G1 F' G' D1 D' (n + 1) :=
  ⟨(h.two.turn.after S' B' T' t k oF oG).turn, by have := h.w1; omega, by have := h.w2; omega, k _ _ h.el (fun _ z => by cases z) (nl_all h.nl h.n2), t _ _ h.e1, t _ _ h.e2, h.nl, h.n1, fun z => (List.mem_append.mp z).elim (ll_out h.el h.n2 oF) (ll_out h.el h.n2 oG)⟩
end
def tTl (K : PySem.W.Frag) (E : XK) : TS := (tIfS (tOr (tNot (tB (tVar 7))) (tOr (tNot (tB (tCall (sp_law_is K) [] E (tCons (tVar 1) (tCons (tOpC (rIxT K) (tOpC (rIxL K) (tVar 2) (.int 0)) (.int 0)) (tCons (tOpC (rIxT K) (tOpC (rIxL K) (tVar 2) (.int 0)) (.int 1)) tNil)))))) (tNot (tB (tCall (sp_law_is K) [] E (tCons (tVar 1) (tCons (tOpC (rIxT K) (tOpC (rIxL K) (tVar 2) (.int 1)) (.int 0)) (tCons (tOpC (rIxT K) (tOpC (rIxL K) (tVar 2) (.int 1)) (.int 1)) tNil)))))))) (tRet (tC (.bl false))) tNext)
theorem tail {K : PySem.W.Frag} {E : XK} {EN : Ends} {H : Hp} {a bl p1 q1 p2 q2 ll t1 t2 : Addr} {F1 G1 F2 G2 : List Addr} {D1 D2 : DiskM} {n : Nat} {x0 x3 x4 x5 x6 x8 x9 x10 : Option V} (h : Sides K H a bl p1 q1 p2 q2 ll t1 t2 F1 G1 F2 G2 D1 D2 n)
    (k : ∀ H', Sides K H' a bl p1 q1 p2 q2 ll t1 t2 F1 G1 F2 G2 D1 D2 n → EN.nx [x0, some (.ref a), some (.ref ll), x3, x4, x5, x6, some (.bl true), x8, x9, x10] H') :
    tTl K E EN [x0, some (.ref a), some (.ref ll), x3, x4, x5, x6, some (.bl true), x8, x9, x10] H := by
  refine ⟨_, rfl, _, rfl, ?_⟩
  refine ⟨_, rfl, _, rfl, ixL h.el (j := 0) (by decide) rfl (ixT ⟨_, rfl, h.e1⟩ (j := 0) (by decide) rfl ⟨_, rfl, ixL h.el (j := 0) (by decide) rfl (ixT ⟨_, rfl, h.e1⟩ (j := 1) (by decide) rfl ⟨a, bl, p1, q1, F1, G1, D1, rfl, h.two.b, rfl, rfl, h.two.s1, h.two.t, h.two.n1, fun H1 _ B1 T1 t1 k1 => ?_⟩)⟩)⟩
  have h1 := h.boxed B1 T1 t1 k1
  refine ⟨_, rfl, ?_⟩
  refine ⟨_, rfl, _, rfl, ixL h1.el (j := 1) (by decide) rfl (ixT ⟨_, rfl, h1.e2⟩ (j := 0) (by decide) rfl ⟨_, rfl, ixL h1.el (j := 1) (by decide) rfl (ixT ⟨_, rfl, h1.e2⟩ (j := 1) (by decide) rfl ⟨a, bl, p2, q2, F2, G2, D2, rfl, h1.two.b, rfl, rfl, h1.two.s2, h1.two.t, h1.two.n2, fun H2 _ B2 T2 t2 k2 => ?_⟩)⟩)⟩
  exact ⟨_, rfl, k H2 (h1.boxed B2 T2 t2 k2)⟩
theorem pure_law {K : PySem.W.Frag} (T : TxtDisk K) (eStopped : ErrIs K "Stopped") : ∀ vs H Q E, sp_law K vs H Q E → t_law K E { nx := fun _ H' => Q .non H', rt := Q } (start N_law vs) H := by
  intro vs H Q E h
  match vs, h with
  | [sv], h =>
    obtain ⟨s, ns, rfl, hs, l63, TT, k⟩ := h
    refine ⟨_, rfl, s, ns, rfl, hs, l63, fun a bl H1 ha hl B1 s1 => ?_⟩
    intro p1 dx1 hp1 hdx1 nd1
    refine disk_new hp1 hdx1 nd1 fun F1 H2 d1 f1 s2 => ⟨rfl, ?_⟩
    intro q1 G1 H3 o1 g1 s3
    refine ⟨szle (by show 2 ≤ 100000; decide), fun t1 ht1 => ?_⟩
    generalize gX : upd _ t1 _ = H4
    have s4 := newS ht1 gX
    have et1 := newE gX
    clear gX
    intro p2 dx2 hp2 hdx2 nd2
    refine disk_new hp2 hdx2 nd2 fun F2 H5 d2 f2 s5 => ⟨rfl, ?_⟩
    intro q2 G2 H6 o2 g2 s6
    refine ⟨szle (by show 2 ≤ 100000; decide), fun t2 ht2 => ?_⟩
    generalize gX : upd _ t2 _ = H7
    have s7 := newS ht2 gX
    have et2 := newE gX
    clear gX
    refine ⟨szle (by show 2 ≤ 100000; decide), fun ll hll => ?_⟩
    generalize gX : upd _ ll _ = H8
    have s8 := newS hll gX
    have ell := newE gX
    clear gX
    have s38 : Same H3 H8 := ((((s4.trans s5).trans s6).trans s7).trans s8)
    have s68 : Same H6 H8 := s7.trans s8
    have nt : ∀ d ∈ newDisk.settled, Neat 5 d := fun d hd => by
      rw [List.eq_of_mem_replicate hd]
      exact (neat0 (d := .non) fun _ => nofun).up (by decide)
    have apart : ∀ {X Y : Hp} {A B : List Addr}, (∀ x ∈ A, ∃ u, X x = some u) → Same X Y → (∀ x ∈ B, Y x = none) → ∀ x ∈ A, x ∉ B := fun th s n x hx hy => by
      obtain ⟨u, hu⟩ := th x hx
      have e := s _ _ hu
      rw [n x hy] at e
      cases e
    have d13 := d1.same s3
    have o13 := o1
    have th3 : ∀ x ∈ F1 ++ G1, ∃ u, H3 x = some u := fun x hx => (List.mem_append.mp hx).elim (d13.there x) (o1.there x)
    have W8 : Two K H8 a bl p1 q1 p2 q2 F1 G1 F2 G2 newDisk newDisk := ⟨⟨d13.same s38, o1.same s38, apart d1.there (Same.refl _) g1, nt, fun _ z => by simp [newDisk] at z, Nat.zero_le _⟩, ⟨(d2.same s6).same s68, o2.same s68, apart d2.there (Same.refl _) g2, nt, fun _ z => by simp [newDisk] at z, Nat.zero_le _⟩,
      B1.same ((s2.trans s3).trans s38), tabs_same TT (((s1.trans s2).trans s3).trans s38), fun x hx => ⟨apart B1.there (Same.refl _) f1 x hx, apart B1.there s2 g1 x hx⟩, fun x hx => ⟨apart B1.there ((s2.trans s3).trans s4) f2 x hx, apart B1.there (((s2.trans s3).trans s4).trans s5) g2 x hx⟩, fun x hx z => (List.mem_append.mp z).elim (apart th3 s4 f2 x hx) (apart th3 (s4.trans s5) g2 x hx)⟩
    have bk : ∀ {A : List Addr}, (∀ x ∈ A, ∃ u, H7 x = some u) → ll ∉ A := fun th z => by
      obtain ⟨u, hu⟩ := th ll z
      rw [hll] at hu
      cases hu
    have s37 := ((s4.trans s5).trans s6).trans s7
    have V8 : Sides K H8 a bl p1 q1 p2 q2 ll t1 t2 F1 G1 F2 G2 newDisk newDisk 0 := ⟨W8, Nat.le_refl _, Nat.le_refl _, ell, (((s5.trans s6).trans s7).trans s8) _ _ et1, s8 _ _ et2,
      bk (B1.same ((s2.trans s3).trans s37)).there, bk fun x hx => (th3 x hx).imp fun u e => s37 _ _ e, bk fun x hx => (List.mem_append.mp hx).elim (fun m => ((d2.same s6).there x m).imp fun u e => s7 _ _ e) fun m => (o2.there x m).imp fun u e => s7 _ _ e⟩
    refine ⟨_, rfl, a, bl, _, rfl, rfl, by decide, by decide, V8.two.b, fun m H9 m0 m1 B9 k9 => ⟨_, rfl, by omega, by omega, ?_⟩⟩
    have V9 := V8.but B9 k9
    refine for_range (lo := 0) (n := m.toNat) (fun i σ H' => ∃ x3 x4 x5 x6 x7 x8 x9 x10 F1 G1 F2 G2 D1 D2, σ = [some (.ref s), some (.ref a), some (.ref ll), x3, x4, x5, x6, x7, x8, x9, x10] ∧ Sides K H' a bl p1 q1 p2 q2 ll t1 t2 F1 G1 F2 G2 D1 D2 i)
      ⟨none, none, none, none, none, none, none, none, F1, G1, F2, G2, _, _, rfl, V9⟩ ?_ ?_
    · rintro i σ X0 hi ⟨x3, x4, x5, x6, x7, x8, x9, x10, F1, G1, F2, G2, D1, D2, rfl, V⟩
      refine ⟨_, rfl, _, rfl, a, bl, _, rfl, rfl, by decide, by decide, V.two.b, fun r X1 r0 r1 B1 k1 => ⟨_, _, rfl, rfl, div_ok (by decide) (by decide), ?_⟩⟩
      have V1 := V.but B1 k1
      by_cases c : r / 3 = 0
      · refine ixL V1.el (j := 0) (by show r / 3 = _; omega) rfl ⟨t1, _, rfl, SqT.of V1.e1, rfl, _, _, rfl, _, _, rfl, rfl, ?_⟩
        refine ⟨_, rfl, a, bl, _, rfl, rfl, by decide, by decide, V1.two.b, fun w X2 w0 w1 B2 k2 => ?_⟩
        have V2 := V1.but B2 k2
        refine mid eStopped V2.two.s1 V2.two.b V2.two.t V2.two.n1 (by have := V2.w1; omega) fun X3 F' G' D' y8 y9 y10 S' B' T' le t b oF oG => ?_
        exact tail (V2.one S' B' T' le t b oF oG) fun X4 V4 => ⟨_, _, _, _, _, _, _, _, _, _, _, _, _, _, rfl, V4⟩
      · have c1 : r / 3 = 1 := by omega
        refine ixL V1.el (j := 1) (by show r / 3 = _; omega) rfl ⟨t2, _, rfl, SqT.of V1.e2, rfl, _, _, rfl, _, _, rfl, rfl, ?_⟩
        refine ⟨_, rfl, a, bl, _, rfl, rfl, by decide, by decide, V1.two.b, fun w X2 w0 w1 B2 k2 => ?_⟩
        have V2 := V1.but B2 k2
        refine mid eStopped V2.two.s2 V2.two.b V2.two.t V2.two.n2 (by have := V2.w2; omega) fun X3 F' G' D' y8 y9 y10 S' B' T' le t b oF oG => ?_
        exact tail (V2.other S' B' T' le t b oF oG) fun X4 V4 => ⟨_, _, _, _, _, _, _, _, _, _, _, _, _, _, rfl, V4⟩
    · rintro σ X0 ⟨x3, x4, x5, x6, x7, x8, x9, x10, F1, G1, F2, G2, D1, D2, rfl, V⟩
      exact k X0
end Rs


namespace Lw
open PySem PySem.Spec PyProof.Rows L2 Rs LamX
structure Wd (K : PySem.W.Frag) (mg : Str → Option Value) (base : Heap) : Prop where
  c : Hx.SaysM fs fn K
  X : ∃ h : Heap, K.In h ∧ h.Ns mainGlobals mg
  tab : TabF K mg base Lms_k11
section
variable {K : PySem.W.Frag} {mg : Str → Option Value} {base : Heap}
theorem nodup_tabs (c : Hx.SaysM fs fn K) : ((tabs Lms_k11 K).map (·.1)).Nodup := of_decide_eq_true (c.fact 0 (f := fun K => decide ((tf.map fun p => (He.cT K p).2).Nodup)) rfl)
theorem Wd.err (W : Wd K mg base) (i : Nat) {x : Str} (h : fe[i]? = some x) : ErrIs K x := errB_ok (W.c.fact (i + 1) (f := fun K => Rs.errB x K) (by
  show (fe.map (fun x K => Rs.errB x K) ++ fa.map fun f K => f.ok K)[i]? = _
  rw [List.getElem?_append_left (by rw [List.length_map]; exact (List.getElem?_eq_some_iff.mp h).1), List.getElem?_map, h]; rfl))
theorem says_fact (c : Hx.SaysM fs fn K) (i : Nat) {f : He.Fa} (h : fa[i]? = some f) : f.ok K = true := c.fact (fe.length + i + 1) (f := fun K => f.ok K) (by
  show (fe.map (fun x K => Rs.errB x K) ++ fa.map fun f K => f.ok K)[fe.length + i]? = _
  rw [List.getElem?_append_right (by rw [List.length_map]; omega), List.length_map, Nat.add_sub_cancel_left, List.getElem?_map, h]; rfl)
theorem Wd.fact (W : Wd K mg base) (i : Nat) {f : He.Fa} (h : fa[i]? = some f) : f.ok K = true := says_fact W.c i h
theorem lms_tf (p : He.Defn × Str) (h : p ∈ Lms_k11) : p.1 ∈ tf := by
  have e : Lms_k11.map (·.1) = tf := rfl
  rw [← e]
  exact List.mem_map.mpr ⟨p, h, rfl⟩
theorem tabs_start (H : Hp) (h : ∀ p ∈ tf, H (He.cT K p).2 = some (.tbl #[])) : Tabs (tabs Lms_k11 K) H := fun q hq => by
  obtain ⟨p, hp, rfl⟩ := List.mem_map.mp hq
  exact TabS.nil (h _ (lms_tf p hp))
theorem Wd.glo (W : Wd K mg base) (i : Nat) {x : Str} (h : fa[i]? = some (.glo x)) : mg x = some (.ref (He.ga K x)) := let ⟨_, a, b⟩ := W.X; He.glo_ok a b (W.fact i h)
theorem Wd.free (W : Wd K mg base) (i : Nat) {x : Str} (h : fa[i]? = some (.free x)) : mg x = none := let ⟨_, a, b⟩ := W.X; He.free_ok a b (W.fact i h)
theorem Wd.int (W : Wd K mg base) (i : Nat) {x : Str} {z : Int} (h : fa[i]? = some (.int x z)) : ∃ t, mg x = some (.int z t) := let ⟨_, a, b⟩ := W.X; He.int_ok a b (W.fact i h)
theorem Wd.str (W : Wd K mg base) (i : Nat) {x z : Str} (h : fa[i]? = some (.str x z)) : ∃ t, mg x = some (.str z t) := let ⟨_, a, b⟩ := W.X; He.str_ok a b (W.fact i h)
theorem Wd.cls (W : Wd K mg base) (i : Nat) {x : Str} (h : fa[i]? = some (.cls x)) : Cls K (He.ga K x) := He.cls_ok (W.fact i h)
theorem Wd.noat (W : Wd K mg base) (i : Nat) {x f : Str} (h : fa[i]? = some (.noat x f)) : NoAttr K (He.ga K x) f := He.noat_ok (W.fact i h)
theorem Wd.meth (W : Wd K mg base) (i : Nat) {x m : Str} (h : fa[i]? = some (.meth x m)) : Meth K (He.ga K x) m (He.ma K (He.ga K x) m) := He.meth_ok (W.fact i h)
theorem Wd.exc (W : Wd K mg base) (i : Nat) {x : Str} (h : fa[i]? = some (.exc x)) : PySem.W.excIn K (He.ga K x) He.veBase "ValueError.__new__" = true ∧ PySem.W.keepIn K (.ref (He.ga K x)) = true ∧ PySem.W.subIn K (.ref (He.ga K x)) (.type "BaseException") = some true ∧ PySem.W.typeIn K (.ref (He.ga K x)) = some (.type "type") := He.exc_ok (W.fact i h)
theorem Wd.exm (W : Wd K mg base) (i : Nat) {x y : Str} {b : Bool} (h : fa[i]? = some (.exm x y b)) : PySem.W.exmOne K (.ref (He.ga K x)) (.ref (He.ga K y)) = some b := He.exm_ok (W.fact i h)
theorem Wd.mkr (W : Wd K mg base) (i : Nat) {x : Str} (h : fa[i]? = some (.mkr x)) : Mk K (He.ga K x) (He.ma K (He.ga K x) "__init__") := He.mkr_ok (W.fact i h)
theorem Wd.txt_Disk (W : Wd K mg base) : TxtDisk K := ⟨W.cls 37 rfl, W.noat 61 rfl, W.noat 62 rfl, W.noat 63 rfl, W.noat 64 rfl, W.noat 65 rfl⟩
end
/-! ### each def keeps its promise -/
section
variable {P : Program} {w : World} {K : PySem.W.Frag} {mg : Str → Option Value} {base : Heap}
theorem sc_law_begun : FnScope N_law_begun P_law_begun (defScope s_law_begun) := ⟨rfl, rfl, rfl, by decide +kernel, rfl, by decide +kernel, by decide +kernel⟩
theorem ok_law_begun (W : Wd K mg base) : Can P w K mg base 1 ("_law_begun", none) P_law_begun (sp_law_begun K) := by
  obtain ⟨fd, F⟩ := W.c.def_ 0 (d := d_law_begun) rfl
  refine can_of F (F.bindsN fun _ _ _ _ _ _ us hl => match us, hl with | [_], _ => rfl) sc_law_begun (fun vs H Q E h => by unfold sp_law_begun at h; match vs, h with | [_], _ => rfl) (t_law_begun K) (fun cdv A outer s H E hr => ?_) (pure_law_begun)
  have nd := sc_law_begun.nd
  exact (pss_cons (ps_set (i := 1) nd rfl (Or.inl rfl) pe_int)
    (pss_cons (ps_for (passes_of rfl) rfl (pi_list (pv 0)) (pg_name (i := 2) nd rfl (Or.inl rfl)) (pss_one (ps_set (i := 1) nd rfl (Or.inl rfl) (pe_opC op_mod (pe_opC op_add (pe_op op_add (pe_opC op_mul (pv 1) pe_int) (pe_opC op_mul (pv 2) pe_int)) pe_int) pe_int))))
    (pss_one (ps_ret (pe_lst (pa_cons (pe_callTy1 call_list_of (by rfl) (W.free 0 rfl) (by decide +kernel) (pv 0)) (pa_cons (pe_op op_mul (pv 1) (pe_callTy1 call_int1 (by rfl) (W.free 2 rfl) (by decide +kernel) (pe_cmpRC op_gt (pe_callB1 call_len_seq (by rfl) (W.free 1 rfl) (by decide +kernel) (pv 0)) pe_int (nomark _)))) pa_nil)))))))
theorem sc_law_take : FnScope N_law_take P_law_take (defScope s_law_take) := ⟨rfl, rfl, rfl, by decide +kernel, rfl, by decide +kernel, by decide +kernel⟩
theorem ok_law_take (W : Wd K mg base) : Can P w K mg base 1 ("_law_take", none) P_law_take (sp_law_take K) := by
  obtain ⟨fd, F⟩ := W.c.def_ 1 (d := d_law_take) rfl
  refine can_of F (F.bindsN fun _ _ _ _ _ _ us hl => match us, hl with | [_, _], _ => rfl) sc_law_take (fun vs H Q E h => by unfold sp_law_take at h; match vs, h with | [_, _], _ => rfl) (t_law_take K) (fun cdv A outer s H E hr => ?_) (pure_law_take)
  have nd := sc_law_take.nd
  exact (pss_cons (ps_if (pt_cmpR (opx_eqE (hu_of hr)) (pe_ixC ix_list (pv 0) pe_int (fun _ _ => rfl)) (pe_lst pa_nil) (nomark _)) (pss_cons (ps_asg (pe_opC op_mod (pe_opC op_mul (pe_ixC ix_list (pv 0) pe_int (fun _ _ => rfl)) pe_int) pe_int) (pg_subC (pv 0) pe_int set_list))
    (pss_one (ps_ret (pe_op op_mod (pe_opC op_fdivW (pe_ixC ix_list (pv 0) pe_int (fun _ _ => rfl)) pe_int) (pv 1))))) pss_nil)
    (pss_cons (ps_set (i := 2) nd rfl (Or.inl rfl) (pe_ixC ix_list (pe_ixC ix_list (pv 0) pe_int (fun _ _ => rfl)) pe_int (fun _ _ => rfl)))
    (pss_cons (ps_asg (pe_op op_fdivW (pv 2) (pv 1)) (pg_subC (pe_ixC ix_list (pv 0) pe_int (fun _ _ => rfl)) pe_int set_list))
    (pss_cons (ps_if (PW.pt (pw_or (pt_cmpRC op_eq (pe_ixC ix_list (pe_ixC ix_list (pv 0) pe_int (fun _ _ => rfl)) pe_int (fun _ _ => rfl)) pe_int (nomark _)) (pw_or1 (pt_cmpRC op_eq (pe_ixC ix_list (pe_ixC ix_list (pv 0) pe_int (fun _ _ => rfl)) pe_int (fun _ _ => rfl)) (pe_unN pe_int) (nomark _))))) (pss_one (ps_expr (pe_bm PySem.F.plainAttrs_list PySem.F.slot_list_pop PySem.F.type_list_pop mt_popAt (pe_ixC ix_list (pv 0) pe_int (fun _ _ => rfl)) (pa_consC pe_int pa_nil)))) pss_nil)
    (pss_one (ps_ret (pe_op op_mod (pv 2) (pv 1))))))))
theorem sc_Disk___init__ : FnScope N_Disk___init__ P_Disk___init__ (defScope s_Disk___init__) := ⟨rfl, rfl, rfl, by decide +kernel, rfl, by decide +kernel, by decide +kernel⟩
theorem ok_Disk___init__ (W : Wd K mg base) : Can P w K mg base 1 ("Disk", some "__init__") P_Disk___init__ (sp_Disk___init__ K) := by
  obtain ⟨fd, F⟩ := W.c.def_ 2 (d := d_Disk___init__) rfl
  refine can_of F (F.bindsN fun _ _ _ _ _ _ us hl => match us, hl with | [_], _ => rfl) sc_Disk___init__ (fun vs H Q E h => by unfold sp_Disk___init__ at h; match vs, h with | [_], _ => rfl) (t_Disk___init__ K) (fun cdv A outer s H E hr => ?_) (pure_Disk___init__ W.txt_Disk)
  have nd := sc_Disk___init__.nd
  exact (pss_cons (ps_fl (pv 0) (pe_opC op_rep (pe_lst (pa_consC pe_non pa_nil)) (pe_gint rfl (W.int 3 rfl))) rfl)
    (pss_cons (ps_fl (pv 0) (pe_lst pa_nil) rfl)
    (pss_cons (ps_fl (pv 0) pe_non rfl)
    (pss_cons (ps_fl (pv 0) (pe_lst pa_nil) rfl)
    (pss_one (ps_fl (pv 0) pe_bl rfl))))))
theorem sc_law_made : FnScope N_law_made P_law_made (defScope s_law_made) := ⟨rfl, rfl, rfl, by decide +kernel, rfl, by decide +kernel, by decide +kernel⟩
theorem ok_law_made (W : Wd K mg base) : Can P w K mg base 1 ("_law_made", none) P_law_made (sp_law_made K) := by
  obtain ⟨fd, F⟩ := W.c.def_ 3 (d := d_law_made) rfl
  refine can_of F (F.bindsN fun _ _ _ _ _ _ us hl => match us, hl with | [], _ => rfl) sc_law_made (fun vs H Q E h => by unfold sp_law_made at h; match vs, h with | [], _ => rfl) (t_law_made K) (fun cdv A outer s H E hr => ?_) (pure_law_made)
  have nd := sc_law_made.nd
  exact (pss_one (ps_ret (pe_disp (pps_cons pe_str (pe_opC op_rep (pe_lst (pa_consC pe_non pa_nil)) pe_int) (pps_cons pe_str (pe_lst pa_nil) (pps_cons pe_str pe_non (pps_cons pe_str (pe_lst pa_nil) (pps_cons pe_str pe_bl pps_nil))))) rfl rfl (by intro z; cases z) (by decide))))
theorem sc_law_nest : FnScope N_law_nest P_law_nest (defScope s_law_nest) := ⟨rfl, rfl, rfl, by decide +kernel, rfl, by decide +kernel, by decide +kernel⟩
theorem okr_law_nest (W : Wd K mg base) : ∀ d, Can P w K mg base (1 + d) ("_law_nest", none) P_law_nest (spr_law_nest K d) := by
  obtain ⟨fd, F⟩ := W.c.def_ 4 (d := d_law_nest) rfl
  refine can_rec (lev := 1) F (F.bindsN fun _ _ _ _ _ _ us hl => match us, hl with | [_, _, _], _ => rfl) sc_law_nest (len_law_nest K) (no_law_nest K) (t_law_nest K) (fun d ih cdv A outer s H E hr => ?_) (fun d => pure_law_nest d)
  have nd := sc_law_nest.nd
  exact (pss_cons (ps_set (i := 3) nd rfl (Or.inl rfl) (pe_callC (ok_law_take W) (hr.mono (by omega)) rfl (W.glo 4 rfl) (passes_call (takes_of rfl rfl rfl rfl) (fun _ _ _ _ h => h)) (pa_cons (pv 0) (pa_cons (pe_opC op_add (pe_callB1 call_len_seq (by rfl) (W.free 1 rfl) (by decide +kernel) (pv 1)) pe_int) pa_nil))))
    (pss_cons (ps_if (pt_cmpRC op_eq (pv 2) pe_int (nomark _)) (pss_one (ps_ret (pe_callTy1 call_tuple_of (by rfl) (W.free 5 rfl) (by decide +kernel) (pv 1)))) pss_nil)
    (pss_cons (ps_if (pt_cmpRC op_eq (pe_callC (ok_law_take W) (hr.mono (by omega)) rfl (W.glo 4 rfl) (passes_call (takes_of rfl rfl rfl rfl) (fun _ _ _ _ h => h)) (pa_cons (pv 0) (pa_consC pe_int pa_nil))) pe_int (nomark _)) (pss_one (ps_ret (pe_tup (pa_cons (pe_callC ih (hr.mono (by omega)) rfl (W.glo 6 rfl) (passes_call (takes_of rfl rfl rfl rfl) (fun _ _ _ _ h => h)) (pa_cons (pv 0) (pa_cons (pe_slice sl_list (pv 1) po_none (po_some (pv 3))) (pa_cons (pe_opC op_sub (pv 2) pe_int) pa_nil)))) (pa_cons (pe_tup pa_nil) (pa_cons (pe_callC ih (hr.mono (by omega)) rfl (W.glo 6 rfl) (passes_call (takes_of rfl rfl rfl rfl) (fun _ _ _ _ h => h)) (pa_cons (pv 0) (pa_cons (pe_slice sl_list (pv 1) (po_some (pv 3)) po_none) (pa_cons (pe_opC op_sub (pv 2) pe_int) pa_nil)))) pa_nil)))))) pss_nil)
    (pss_one (ps_ret (pe_op op_catA (pe_callTy1 call_tuple_of (by rfl) (W.free 5 rfl) (by decide +kernel) (pe_slice sl_list (pv 1) po_none (po_some (pv 3)))) (pe_tup (pa_cons (pe_callC ih (hr.mono (by omega)) rfl (W.glo 6 rfl) (passes_call (takes_of rfl rfl rfl rfl) (fun _ _ _ _ h => h)) (pa_cons (pv 0) (pa_cons (pe_slice sl_list (pv 1) (po_some (pv 3)) po_none) (pa_cons (pe_opC op_sub (pv 2) pe_int) pa_nil)))) pa_nil))))))))
theorem ok_law_nest (W : Wd K mg base) : Can P w K mg base 6 ("_law_nest", none) P_law_nest (sp_law_nest K) := okr_law_nest W 5
theorem sc_law_what : FnScope N_law_what P_law_what (defScope s_law_what) := ⟨rfl, rfl, rfl, by decide +kernel, rfl, by decide +kernel, by decide +kernel⟩
theorem ok_law_what (W : Wd K mg base) : Can P w K mg base 7 ("_law_what", none) P_law_what (sp_law_what K) := by
  obtain ⟨fd, F⟩ := W.c.def_ 5 (d := d_law_what) rfl
  refine can_of F (F.bindsN fun _ _ _ _ _ _ us hl => match us, hl with | [_], _ => rfl) sc_law_what (fun vs H Q E h => by unfold sp_law_what at h; match vs, h with | [_], _ => rfl) (t_law_what K) (fun cdv A outer s H E hr => ?_) (pure_law_what)
  have nd := sc_law_what.nd
  exact (pss_cons (ps_set (i := 1) nd rfl (Or.inl rfl) (pe_callC (ok_law_take W) (hr.mono (by decide)) rfl (W.glo 4 rfl) (passes_call (takes_of rfl rfl rfl rfl) (fun _ _ _ _ h => h)) (pa_cons (pv 0) (pa_consC pe_int pa_nil))))
    (pss_cons (ps_if (pt_cmpRC op_eq (pv 1) pe_int (nomark _)) (pss_cons (ps_set (i := 2) nd rfl (Or.inr rfl) (pe_lst (pa_cons (pe_callC (ok_law_take W) (hr.mono (by decide)) rfl (W.glo 4 rfl) (passes_call (takes_of rfl rfl rfl rfl) (fun _ _ _ _ h => h)) (pa_cons (pv 0) (pa_consC pe_int pa_nil))) (pa_consC pe_str (pa_consC pe_non (pa_consC pe_bl pa_nil))))))
    (pss_cons (ps_setLc (i := 3) (own := [("_law_k", 4)]) rfl nd rfl rfl (sw_true rfl rfl rfl (by decide +kernel)) (pi_range1 (by rfl) (W.free 7 rfl) (pa_cons (pe_opD op_add pe_int (pe_callC (ok_law_take W) (hr.mono (by decide)) rfl (W.glo 4 rfl) (passes_call (takes_of rfl rfl rfl rfl) (fun _ _ _ _ h => h)) (pa_cons (pv 0) (pa_consC pe_int pa_nil)))) pa_nil)) (blkOk_by (own := [("_law_k", 4)]) (N := N_law_what) (sc := defScope s_law_what) (by decide +kernel)) (fun _ _ _ _ _ => (pg_name (i := 4) nd rfl (Or.inl rfl))) (fun _ _ _ _ _ => pts_nil) (fun _ _ _ _ _ => (pe_ix ix_list (pv 2) (pe_callC (ok_law_take W) (hr.mono (by decide)) rfl (W.glo 4 rfl) passL (pa_cons (pv 0) (pa_consC pe_int pa_nil))) (fun _ _ => rfl))))
    (pss_one (ps_ret (pe_callC (ok_law_nest W) (hr.mono (by decide)) rfl (W.glo 6 rfl) (passes_call (takes_of rfl rfl rfl rfl) (fun _ _ _ _ h => h)) (pa_cons (pv 0) (pa_cons (pv 3) (pa_cons (pe_callC (ok_law_take W) (hr.mono (by decide)) rfl (W.glo 4 rfl) (passes_call (takes_of rfl rfl rfl rfl) (fun _ _ _ _ h => h)) (pa_cons (pv 0) (pa_consC pe_int pa_nil))) pa_nil)))))))) pss_nil)
    (pss_cons (ps_set (i := 2) nd rfl (Or.inr rfl) (pe_lst (pa_consC pe_non (pa_cons (pe_callC (ok_law_take W) (hr.mono (by decide)) rfl (W.glo 4 rfl) (passes_call (takes_of rfl rfl rfl rfl) (fun _ _ _ _ h => h)) (pa_cons (pv 0) (pa_consC pe_int pa_nil))) (pa_cons (pe_tup (pa_consC pe_str (pa_cons (pe_tup (pa_consC pe_int (pa_cons (pe_callC (ok_law_take W) (hr.mono (by decide)) rfl (W.glo 4 rfl) (passes_call (takes_of rfl rfl rfl rfl) (fun _ _ _ _ h => h)) (pa_cons (pv 0) (pa_consC pe_int pa_nil))) (pa_consC pe_non pa_nil)))) pa_nil))) (pa_consC pe_str (pa_cons (pe_tup (pa_cons (pe_tup pa_nil) (pa_cons (pe_tup (pa_consC pe_bl (pa_cons (pe_tup (pa_cons (pe_tup (pa_consC pe_int pa_nil)) pa_nil)) pa_nil))) pa_nil))) pa_nil)))))))
    (pss_one (ps_ret (pe_ix ix_list (pv 2) (pv 1) (fun _ _ => rfl)))))))
theorem sc_law_alike : FnScope N_law_alike P_law_alike (defScope s_law_alike) := ⟨rfl, rfl, rfl, by decide +kernel, rfl, by decide +kernel, by decide +kernel⟩
theorem okr_law_alike (W : Wd K mg base) : ∀ d, Can P w K mg base (0 + d) ("_law_alike", none) P_law_alike (spr_law_alike K d) := by
  obtain ⟨fd, F⟩ := W.c.def_ 6 (d := d_law_alike) rfl
  refine can_rec (lev := 0) F (F.bindsN fun _ _ _ _ _ _ us hl => match us, hl with | [_, _], _ => rfl) sc_law_alike (len_law_alike K) (no_law_alike K) (t_law_alike K) (fun d ih cdv A outer s H E hr => ?_) (fun d => pure_law_alike d)
  have nd := sc_law_alike.nd
  exact (pss_cons (ps_if (pt_cmpRC op_isN1 (pv 1) pe_non (nomark _)) (pss_one (ps_ret (pe_cmpRC op_isN1 (pv 0) pe_non (nomark _)))) pss_nil)
    (pss_cons (ps_if (pt_val (pe_isi (by rfl) (W.free 8 rfl) (pv 1) (pe_bltn (v := .ty "bool") rfl (W.free 9 rfl) (by decide +kernel) rfl))) (pss_one (ps_ret (pe_and (pe_isi (by rfl) (W.free 8 rfl) (pv 0) (pe_bltn (v := .ty "bool") rfl (W.free 9 rfl) (by decide +kernel) rfl)) (pe_one (pe_cmpR op_eq (pv 0) (pv 1) (nomark _)))))) pss_nil)
    (pss_cons (ps_if (pt_val (pe_isi (by rfl) (W.free 8 rfl) (pv 1) (pe_bltn (v := .ty "int") rfl (W.free 2 rfl) (by decide +kernel) rfl))) (pss_one (ps_ret (pe_and (pe_isi (by rfl) (W.free 8 rfl) (pv 0) (pe_bltn (v := .ty "int") rfl (W.free 2 rfl) (by decide +kernel) rfl)) (pe_and (pe_not (pe_isi (by rfl) (W.free 8 rfl) (pv 0) (pe_bltn (v := .ty "bool") rfl (W.free 9 rfl) (by decide +kernel) rfl))) (pe_one (pe_cmpR op_eq (pv 0) (pv 1) (nomark _))))))) pss_nil)
    (pss_cons (ps_if (pt_val (pe_isi (by rfl) (W.free 8 rfl) (pv 1) (pe_bltn (v := .ty "str") rfl (W.free 10 rfl) (by decide +kernel) rfl))) (pss_one (ps_ret (pe_and (pe_isi (by rfl) (W.free 8 rfl) (pv 0) (pe_bltn (v := .ty "str") rfl (W.free 10 rfl) (by decide +kernel) rfl)) (pe_one (pe_cmpR op_eq (pv 0) (pv 1) (nomark _)))))) pss_nil)
    (pss_cons (ps_if (PW.pt (pw_or (pt_cmpR op_ne (pe_isi (by rfl) (W.free 8 rfl) (pv 1) (pe_bltn (v := .ty "tuple") rfl (W.free 5 rfl) (by decide +kernel) rfl)) (pe_isi (by rfl) (W.free 8 rfl) (pv 0) (pe_bltn (v := .ty "tuple") rfl (W.free 5 rfl) (by decide +kernel) rfl)) (nomark _)) (pw_or1 (pt_cmpR op_ne (pe_isi (by rfl) (W.free 8 rfl) (pv 1) (pe_bltn (v := .ty "list") rfl (W.free 0 rfl) (by decide +kernel) rfl)) (pe_isi (by rfl) (W.free 8 rfl) (pv 0) (pe_bltn (v := .ty "list") rfl (W.free 0 rfl) (by decide +kernel) rfl)) (nomark _))))) (pss_one (ps_ret pe_bl)) pss_nil)
    (pss_cons (ps_if (pt_cmpR op_ne (pe_callB1 call_len_seq (by rfl) (W.free 1 rfl) (by decide +kernel) (pv 0)) (pe_callB1 call_len_seq (by rfl) (W.free 1 rfl) (by decide +kernel) (pv 1)) (nomark _)) (pss_one (ps_ret pe_bl)) pss_nil)
    (pss_cons (ps_for (passes_of rfl) rfl (pi_range1 (by rfl) (W.free 7 rfl) (pa_cons (pe_callB1 call_len_seq (by rfl) (W.free 1 rfl) (by decide +kernel) (pv 1)) pa_nil)) (pg_name (i := 2) nd rfl (Or.inl rfl)) (pss_one (ps_if (pt_not (pt_val (pe_callC ih (hr.mono (by omega)) rfl (W.glo 11 rfl) (passes_call (takes_of rfl rfl rfl rfl) (fun _ _ _ _ h => h)) (pa_cons (pe_ix ix_seq (pv 0) (pv 2) (fun _ _ => rfl)) (pa_cons (pe_ix ix_seq (pv 1) (pv 2) (fun _ _ => rfl)) pa_nil))))) (pss_one (ps_ret pe_bl)) pss_nil)))
    (pss_one (ps_ret pe_bl)))))))))
theorem ok_law_alike (W : Wd K mg base) : Can P w K mg base 45 ("_law_alike", none) P_law_alike (sp_law_alike K) := okr_law_alike W 45
theorem sc_law_class : FnScope N_law_class P_law_class (defScope s_law_class) := ⟨rfl, rfl, rfl, by decide +kernel, rfl, by decide +kernel, by decide +kernel⟩
theorem warm_law_class (W : Wd K mg base) : WarmFn P w K mg base "_law_class" N_law_class (t_law_class K) := by
  obtain ⟨fd, F⟩ := W.c.def_ 7 (d := d_law_class) rfl
  refine warm_of F (F.bindsN fun _ _ _ _ _ _ us hl => match us, hl with | [_], _ => rfl) sc_law_class (W.glo 12 rfl) (fun D a d oe C hz hf cdv A outer z H => ?_)
  have nd := sc_law_class.nd
  have hp : (a, oe) ∈ [(a, oe)] := List.mem_cons_self
  exact (pss_cons (ps_set (i := 1) nd rfl (Or.inl rfl) (pe_lst (pa_cons (pe_callB (call_isP C hz hf hp) (by rfl) (W.free 8 rfl) (by decide +kernel) (pa_cons (pv 0) (pa_consC (pe_gref rfl (W.glo 13 rfl)) pa_nil))) (pa_cons (pe_callB (call_isP C hz hf hp) (by rfl) (W.free 8 rfl) (by decide +kernel) (pa_cons (pv 0) (pa_consC (pe_gref rfl (W.glo 14 rfl)) pa_nil))) (pa_cons (pe_callB (call_isP C hz hf hp) (by rfl) (W.free 8 rfl) (by decide +kernel) (pa_cons (pv 0) (pa_consC (pe_gref rfl (W.glo 15 rfl)) pa_nil))) (pa_cons (pe_callB (call_isP C hz hf hp) (by rfl) (W.free 8 rfl) (by decide +kernel) (pa_cons (pv 0) (pa_consC (pe_gref rfl (W.glo 16 rfl)) pa_nil))) pa_nil))))))
    (pss_cons (ps_set (i := 1) nd rfl (Or.inl rfl) (pe_op op_cat (pv 1) (pe_lst (pa_cons (pe_callB (call_isP C hz hf hp) (by rfl) (W.free 8 rfl) (by decide +kernel) (pa_cons (pv 0) (pa_consC (pe_gref rfl (W.glo 17 rfl)) pa_nil))) (pa_cons (pe_callB (call_isP C hz hf hp) (by rfl) (W.free 8 rfl) (by decide +kernel) (pa_cons (pv 0) (pa_consC (pe_gref rfl (W.glo 18 rfl)) pa_nil))) (pa_cons (pe_callB (call_isP C hz hf hp) (by rfl) (W.free 8 rfl) (by decide +kernel) (pa_cons (pv 0) (pa_consC (pe_gref rfl (W.glo 19 rfl)) pa_nil))) (pa_cons (pe_callB (call_isP C hz hf hp) (by rfl) (W.free 8 rfl) (by decide +kernel) (pa_cons (pv 0) (pa_consC (pe_gref rfl (W.glo 20 rfl)) pa_nil))) pa_nil)))))))
    (pss_cons (ps_set (i := 1) nd rfl (Or.inl rfl) (pe_op op_cat (pv 1) (pe_lst (pa_cons (pe_callB (call_isP C hz hf hp) (by rfl) (W.free 8 rfl) (by decide +kernel) (pa_cons (pv 0) (pa_consC (pe_gref rfl (W.glo 21 rfl)) pa_nil))) (pa_cons (pe_callB (call_isP C hz hf hp) (by rfl) (W.free 8 rfl) (by decide +kernel) (pa_cons (pv 0) (pa_consC (pe_gref rfl (W.glo 22 rfl)) pa_nil))) (pa_cons (pe_callB (call_isP C hz hf hp) (by rfl) (W.free 8 rfl) (by decide +kernel) (pa_cons (pv 0) (pa_consC (pe_gref rfl (W.glo 23 rfl)) pa_nil))) (pa_cons (pe_callB (call_isP C hz hf hp) (by rfl) (W.free 8 rfl) (by decide +kernel) (pa_cons (pv 0) (pa_consC (pe_gref rfl (W.glo 24 rfl)) pa_nil))) pa_nil)))))))
    (pss_cons (ps_set (i := 1) nd rfl (Or.inl rfl) (pe_op op_cat (pv 1) (pe_lst (pa_cons (pe_callB (call_isP C hz hf hp) (by rfl) (W.free 8 rfl) (by decide +kernel) (pa_cons (pv 0) (pa_consC (pe_gref rfl (W.glo 25 rfl)) pa_nil))) (pa_cons (pe_callB (call_isP C hz hf hp) (by rfl) (W.free 8 rfl) (by decide +kernel) (pa_cons (pv 0) (pa_consC (pe_gref rfl (W.glo 26 rfl)) pa_nil))) (pa_cons (pe_callB (call_isP C hz hf hp) (by rfl) (W.free 8 rfl) (by decide +kernel) (pa_cons (pv 0) (pa_consC (pe_gref rfl (W.glo 27 rfl)) pa_nil))) pa_nil))))))
    (pss_cons (ps_set (i := 2) nd rfl (Or.inl rfl) (pe_lst (pa_consC pe_str (pa_consC pe_str (pa_consC pe_str (pa_consC pe_str (pa_consC pe_str (pa_consC pe_str (pa_consC pe_str (pa_consC pe_str (pa_consC pe_str pa_nil)))))))))))
    (pss_cons (ps_set (i := 2) nd rfl (Or.inl rfl) (pe_op op_cat (pv 2) (pe_lst (pa_consC pe_str (pa_consC pe_str (pa_consC pe_str (pa_consC pe_str (pa_consC pe_str (pa_consC pe_str pa_nil)))))))))
    (pss_one (ps_ret (pe_ifExp (PW.pt (pw_and (pt_cmpRC op_eq (pe_bm PySem.F.plainAttrs_list PySem.F.slot_list_count PySem.F.type_list_count mt_countF (pv 1) (pa_consC pe_bl pa_nil)) pe_int (nomark _)) (pw_and1 (pt_val (pe_callB (call_isP C hz hf hp) (by rfl) (W.free 8 rfl) (by decide +kernel) (pa_cons (pv 0) (pa_consC (pe_bltn (v := .ty "ValueError") rfl (W.free 28 rfl) (by decide +kernel) rfl) pa_nil))))))) (pe_ix ix_list (pv 2) (pe_bm PySem.F.plainAttrs_list PySem.F.slot_list_index PySem.F.type_list_index mt_index (pv 1) (pa_consC pe_bl pa_nil)) (fun _ _ => rfl)) pe_str)))))))))
theorem sc_law_told : FnScope N_law_told P_law_told (defScope s_law_told) := ⟨rfl, rfl, rfl, by decide +kernel, rfl, by decide +kernel, by decide +kernel⟩
theorem told_law_told (W : Wd K mg base) : ToldFn P w K mg base "_law_told" := by
  obtain ⟨fd, F⟩ := W.c.def_ 8 (d := d_law_told) rfl
  refine told_of F (F.bindsN fun _ _ _ _ _ _ us hl => match us, hl with | [_], _ => rfl) sc_law_told rfl (Or.inl rfl) (W.glo 30 rfl) (by decide) (by decide) (fun cdv X hP hw hK hm hB hr q => ?_)
  subst hP hw hK hm hB
  have nd := sc_law_told.nd
  refine told_does (y := "_law_work") (n := "_law_e") rfl (W.glo 29 rfl) (by decide) nd rfl rfl (fun _ => rfl) (fun s H a oe cls d pn hz hf => ?_) pure_law_told
  exact (pss_cons (ps_set (i := 2) nd rfl (Or.inl rfl) (pe_warmV (k := 0) (warm_law_class W) (room_suite hr) List.mem_cons_self hz hf rfl (pv 1)))
    (pss_cons (ps_if (pt_cmpRC op_eq (pv 2) pe_str (nomark _)) (pss_one (ps_ret (pe_tup (pa_cons (pv 2) (pa_cons (pe_errF hz hf (pv 1)) pa_nil))))) pss_nil)
    (pss_one (ps_ret (pe_tup (pa_cons (pv 2) (pa_cons (pe_ifExp (pt_cmpR op_in_seq (pv 2) (pe_tup (pa_consC pe_str (pa_consC pe_str pa_nil))) (by rfl)) (pe_errF hz hf (pv 1)) pe_int) pa_nil)))))))
theorem sc_law_weight : FnScope N_law_weight P_law_weight (defScope s_law_weight) := ⟨rfl, rfl, rfl, by decide +kernel, rfl, by decide +kernel, by decide +kernel⟩
theorem okr_law_weight (W : Wd K mg base) : ∀ d, Can P w K mg base (0 + d) ("_law_weight", none) P_law_weight (spr_law_weight K d) := by
  obtain ⟨fd, F⟩ := W.c.def_ 9 (d := d_law_weight) rfl
  refine can_rec (lev := 0) F (F.bindsN fun _ _ _ _ _ _ us hl => match us, hl with | [_], _ => rfl) sc_law_weight (len_law_weight K) (no_law_weight K) (t_law_weight K) (fun d ih cdv A outer s H E hr => ?_) (fun d => pure_law_weight d)
  have nd := sc_law_weight.nd
  exact (pss_cons (ps_if (pt_not (pt_val (pe_isi (by rfl) (W.free 8 rfl) (pv 0) (pe_bltn (v := .ty "tuple") rfl (W.free 5 rfl) (by decide +kernel) rfl)))) (pss_one (ps_ret pe_int)) pss_nil)
    (pss_one (ps_ret (pe_callB1 (cr_sum rfl) (by rfl) (W.free 32 rfl) (by decide +kernel) (pe_lc (own := [("_law_one", 1)]) rfl nd (pi_tup (pv 0)) (blkOk_by (own := [("_law_one", 1)]) (N := N_law_weight) (sc := defScope s_law_weight) (by decide +kernel)) (fun _ _ _ _ _ => (pg_name (i := 1) nd rfl (Or.inl rfl))) (fun _ _ _ _ _ => pts_nil) (fun _ _ _ _ _ => (pe_callC ih (hr.mono (by omega)) rfl (W.glo 31 rfl) passL (pa_cons (pv 1) pa_nil))))))))
theorem ok_law_weight (W : Wd K mg base) : Can P w K mg base 12 ("_law_weight", none) P_law_weight (sp_law_weight K) := okr_law_weight W 12
theorem sc_law_fall : FnScope N_law_fall P_law_fall (defScope s_law_fall) := ⟨rfl, rfl, rfl, by decide +kernel, rfl, by decide +kernel, by decide +kernel⟩
theorem ok_law_fall (W : Wd K mg base) : Can P w K mg base 1 ("_law_fall", none) P_law_fall (sp_law_fall K) := by
  obtain ⟨fd, F⟩ := W.c.def_ 10 (d := d_law_fall) rfl
  refine can_of F (F.bindsN fun _ _ _ _ _ _ us hl => match us, hl with | [_, _], _ => rfl) sc_law_fall (fun vs H Q E h => by unfold sp_law_fall at h; match vs, h with | [_, _], _ => rfl) (t_law_fall K) (fun cdv A outer s H E hr => ?_) (pure_law_fall)
  have nd := sc_law_fall.nd
  exact (pss_cons (ps_for (passes_of rfl) rfl (pi_range1 (by rfl) (W.free 7 rfl) (pa_cons (pe_callB1 call_len_seq (by rfl) (W.free 1 rfl) (by decide +kernel) (pe_dget (hu_of hr) (pv 0) pe_str (fun _ _ => rfl))) pa_nil)) (pg_name (i := 2) nd rfl (Or.inl rfl)) (pss_cons (ps_asg (pe_ix ix_list (pe_dget (hu_of hr) (pv 0) pe_str (fun _ _ => rfl)) (pv 2) (fun _ _ => rfl)) (pg_tup rfl (pgs_cons (pg_name (i := 3) nd rfl (Or.inl rfl)) (pgs_cons (pg_name (i := 4) nd rfl (Or.inl rfl)) pgs_nil))))
    (pss_one (ps_if (pt_val (pe_ix ix_list (pe_op op_cat (pe_callTy1 call_list_of (by rfl) (W.free 0 rfl) (by decide +kernel) (pv 1)) (pe_opC op_rep (pe_lst (pa_consC pe_bl pa_nil)) pe_int)) (pv 2) (fun _ _ => rfl))) (pss_one (ps_asg (pv 4) (pg_sub (pe_dget (hu_of hr) (pv 0) pe_str (fun _ _ => rfl)) (pv 3) set_list))) pss_nil))))
    (pss_cons (ps_dput (hu_of hr) (pv 0) pe_str (pe_lst pa_nil) rfl)
    (pss_one (ps_dput (hu_of hr) (pv 0) pe_str pe_bl rfl))))
theorem sc_law_count : FnScope N_law_count P_law_count (defScope s_law_count) := ⟨rfl, rfl, rfl, by decide +kernel, rfl, by decide +kernel, by decide +kernel⟩
theorem ok_law_count (W : Wd K mg base) : Can P w K mg base 2 ("_law_count", none) P_law_count (sp_law_count K) := by
  obtain ⟨fd, F⟩ := W.c.def_ 11 (d := d_law_count) rfl
  refine can_of F (F.bindsN fun _ _ _ _ _ _ us hl => match us, hl with | [_], _ => rfl) sc_law_count (fun vs H Q E h => by unfold sp_law_count at h; match vs, h with | [_], _ => rfl) (t_law_count K) (fun cdv A outer s H E hr => ?_) (pure_law_count)
  have nd := sc_law_count.nd
  exact (pss_cons (ps_if (pt_val (pe_dget (hu_of hr) (pv 0) pe_str (fun _ _ => rfl))) (pss_one (ps_ret pe_bl)) pss_nil)
    (pss_cons (ps_if (pt_cmpRC op_eq (pe_dget (hu_of hr) (pv 0) pe_str (fun _ _ => rfl)) pe_int (nomark _)) (pss_cons (ps_expr (pe_callC (ok_law_fall W) (hr.mono (by decide)) rfl (W.glo 33 rfl) (passes_call (takes_of rfl rfl rfl rfl) (fun _ _ _ _ h => h)) (pa_cons (pv 0) (pa_cons (pe_dget (hu_of hr) (pv 0) pe_str (fun _ _ => rfl)) pa_nil))))
    (pss_one (ps_ret pe_bl))) pss_nil)
    (pss_cons (ps_if (pt_cmpRC op_notN1 (pe_dget (hu_of hr) (pv 0) pe_str (fun _ _ => rfl)) pe_non (nomark _)) (pss_one (ps_dput (hu_of hr) (pv 0) pe_str (pe_opC op_sub (pe_dget (hu_of hr) (pv 0) pe_str (fun _ _ => rfl)) pe_int) rfl)) pss_nil)
    (pss_one (ps_ret pe_bl)))))
theorem sc_Disk_need_block : FnScope N_Disk_need_block P_Disk_need_block (defScope s_Disk_need_block) := ⟨rfl, rfl, rfl, by decide +kernel, rfl, by decide +kernel, by decide +kernel⟩
theorem ok_Disk_need_block (W : Wd K mg base) : Can P w K mg base 1 ("Disk", some "need_block") P_Disk_need_block (sp_Disk_need_block K) := by
  obtain ⟨fd, F⟩ := W.c.def_ 12 (d := d_Disk_need_block) rfl
  refine can_of F (F.bindsN fun _ _ _ _ _ _ us hl => match us, hl with | [_, _], _ => rfl) sc_Disk_need_block (fun vs H Q E h => by unfold sp_Disk_need_block at h; match vs, h with | [_, _], _ => rfl) (t_Disk_need_block K) (fun cdv A outer s H E hr => ?_) (pure_Disk_need_block)
  have nd := sc_Disk_need_block.nd
  exact (pss_one (ps_if (pt_not (pt_chain op_le op_lt pe_int (pv 1) (pe_gint rfl (W.int 3 rfl)))) (pss_one (ps_raiseE (W.exc 34 rfl) (W.glo 22 rfl) rfl rfl (takes_of rfl rfl rfl rfl))) pss_nil))
theorem sc_Disk_stop : FnScope N_Disk_stop P_Disk_stop (defScope s_Disk_stop) := ⟨rfl, rfl, rfl, by decide +kernel, rfl, by decide +kernel, by decide +kernel⟩
theorem ok_Disk_stop (W : Wd K mg base) : Can P w K mg base 1 ("Disk", some "stop") P_Disk_stop (sp_Disk_stop K) := by
  obtain ⟨fd, F⟩ := W.c.def_ 13 (d := d_Disk_stop) rfl
  refine can_of F (F.bindsN fun _ _ _ _ _ _ us hl => match us, hl with | [_, _], _ => rfl) sc_Disk_stop (fun vs H Q E h => by unfold sp_Disk_stop at h; match vs, h with | [_, _], _ => rfl) (t_Disk_stop K) (fun cdv A outer s H E hr => ?_) (pure_Disk_stop W.txt_Disk)
  have nd := sc_Disk_stop.nd
  exact (pss_cons (ps_for (passes_of rfl) rfl (pi_zip (by rfl) (W.free 35 rfl) (pa_cons (pe_fl (pv 0) rfl) (pa_cons (pe_callTy1 call_list_of (by rfl) (W.free 0 rfl) (by decide +kernel) (pv 1)) pa_nil))) (pg_tup rfl (pgs_cons (pg_tup rfl (pgs_cons (pg_name (i := 2) nd rfl (Or.inl rfl)) (pgs_cons (pg_name (i := 3) nd rfl (Or.inl rfl)) pgs_nil))) (pgs_cons (pg_name (i := 4) nd rfl (Or.inl rfl)) pgs_nil))) (pss_one (ps_if (pt_val (pv 4)) (pss_one (ps_asg (pv 3) (pg_sub (pe_fl (pv 0) rfl) (pv 2) set_list))) pss_nil)))
    (pss_cons (ps_fl (pv 0) (pe_lst pa_nil) rfl)
    (pss_one (ps_fl (pv 0) pe_bl rfl))))
theorem sc_Disk_deed : FnScope N_Disk_deed P_Disk_deed (defScope s_Disk_deed) := ⟨rfl, rfl, rfl, by decide +kernel, rfl, by decide +kernel, by decide +kernel⟩
theorem ok_Disk_deed (W : Wd K mg base) : Can P w K mg base 2 ("Disk", some "deed") P_Disk_deed (sp_Disk_deed K) := by
  obtain ⟨fd, F⟩ := W.c.def_ 14 (d := d_Disk_deed) rfl
  refine can_of F (F.bindsN fun _ _ _ _ _ _ us hl => match us, hl with | [_], _ => rfl) sc_Disk_deed (fun vs H Q E h => by unfold sp_Disk_deed at h; match vs, h with | [_], _ => rfl) (t_Disk_deed K) (fun cdv A outer s H E hr => ?_) (pure_Disk_deed W.txt_Disk)
  have nd := sc_Disk_deed.nd
  exact (pss_cons (ps_if (PW.pt (pw_and (pt_cmpRC op_eq (pe_fl (pv 0) rfl) pe_int (nomark _)) (pw_and1 (pt_not (pt_val (pe_fl (pv 0) rfl)))))) (pss_one (ps_expr (pe_methC (pv 0) (W.cls 37 rfl) (W.meth 36 rfl) (ok_Disk_stop W) (hr.mono (by decide)) (passes_call (takes_of rfl rfl rfl rfl) (fun _ _ _ _ h => h)) (pa_cons (pe_fl (pv 0) rfl) pa_nil)))) pss_nil)
    (pss_cons (ps_if (pt_val (pe_fl (pv 0) rfl)) (pss_one (ps_raiseE (W.exc 38 rfl) (W.glo 23 rfl) rfl rfl (takes_of rfl rfl rfl rfl))) pss_nil)
    (pss_one (ps_if (pt_cmpRC op_notN1 (pe_fl (pv 0) rfl) pe_non (nomark _)) (pss_one (ps_fl (pv 0) (pe_opC op_sub (pe_fl (pv 0) rfl) pe_int) rfl)) pss_nil))))
theorem sc_weight_of : FnScope N_weight_of P_weight_of (defScope s_weight_of) := ⟨rfl, rfl, rfl, by decide +kernel, rfl, by decide +kernel, by decide +kernel⟩
theorem okr_weight_of (W : Wd K mg base) : ∀ d, Can P w K mg base (0 + d) ("weight_of", none) P_weight_of (spr_weight_of K d) := by
  obtain ⟨fd, F⟩ := W.c.def_ 15 (d := d_weight_of) rfl
  refine can_rec (lev := 0) F (F.bindsN fun _ _ _ _ _ _ us hl => match us, hl with | [_], _ => rfl) sc_weight_of (len_weight_of K) (no_weight_of K) (t_weight_of K) (fun d ih cdv A outer s H E hr => ?_) (fun d => pure_weight_of d)
  have nd := sc_weight_of.nd
  exact (pss_cons (ps_if (pt_val (pe_isi (by rfl) (W.free 8 rfl) (pv 0) (pe_bltn (v := .ty "tuple") rfl (W.free 5 rfl) (by decide +kernel) rfl))) (pss_one (ps_ret (pe_callB1 (cr_sum rfl) (by rfl) (W.free 32 rfl) (by decide +kernel) (pe_lc (own := [("part", 1)]) rfl nd (pi_tup (pv 0)) (blkOk_by (own := [("part", 1)]) (N := N_weight_of) (sc := defScope s_weight_of) (by decide +kernel)) (fun _ _ _ _ _ => (pg_name (i := 1) nd rfl (Or.inl rfl))) (fun _ _ _ _ _ => pts_nil) (fun _ _ _ _ _ => (pe_callC ih (hr.mono (by omega)) rfl (W.glo 39 rfl) passL (pa_cons (pv 1) pa_nil))))))) pss_nil)
    (pss_one (ps_ret pe_int)))
theorem ok_weight_of (W : Wd K mg base) : Can P w K mg base 12 ("weight_of", none) P_weight_of (sp_weight_of K) := okr_weight_of W 12
theorem sc_Disk_write : FnScope N_Disk_write P_Disk_write (defScope s_Disk_write) := ⟨rfl, rfl, rfl, by decide +kernel, rfl, by decide +kernel, by decide +kernel⟩
theorem ok_Disk_write (W : Wd K mg base) : Can P w K mg base 13 ("Disk", some "write") P_Disk_write (sp_Disk_write K) := by
  obtain ⟨fd, F⟩ := W.c.def_ 16 (d := d_Disk_write) rfl
  refine can_of F (F.bindsN fun _ _ _ _ _ _ us hl => match us, hl with | [_, _, _], _ => rfl) sc_Disk_write (fun vs H Q E h => by unfold sp_Disk_write at h; match vs, h with | [_, _, _], _ => rfl) (t_Disk_write K) (fun cdv A outer s H E hr => ?_) (pure_Disk_write W.txt_Disk)
  have nd := sc_Disk_write.nd
  exact (pss_cons (ps_expr (pe_methC (pv 0) (W.cls 37 rfl) (W.meth 40 rfl) (ok_Disk_need_block W) (hr.mono (by decide)) (passes_call (takes_of rfl rfl rfl rfl) (fun _ _ _ _ h => h)) (pa_cons (pv 1) pa_nil)))
    (pss_cons (ps_if (pt_cmpRC op_gt (pe_callC (ok_weight_of W) (hr.mono (by decide)) rfl (W.glo 39 rfl) (passes_call (takes_of rfl rfl rfl rfl) (fun _ _ _ _ h => h)) (pa_cons (pv 2) pa_nil)) (pe_gint rfl (W.int 41 rfl)) (nomark _)) (pss_one (ps_raiseE (W.exc 34 rfl) (W.glo 22 rfl) rfl rfl (takes_of rfl rfl rfl rfl))) pss_nil)
    (pss_cons (ps_expr (pe_methC0 (pv 0) (W.cls 37 rfl) (W.meth 42 rfl) (ok_Disk_deed W) (hr.mono (by decide)) (passes_call (takes_of rfl rfl rfl rfl) (fun _ _ _ _ h => h))))
    (pss_one (ps_expr (pe_bm PySem.F.plainAttrs_list PySem.F.slot_list_append PySem.F.type_list_append mt_append (pe_fl (pv 0) rfl) (pa_cons (pe_tup (pa_cons (pv 1) (pa_cons (pv 2) pa_nil))) pa_nil)))))))
theorem sc_law_write : FnScope N_law_write P_law_write (defScope s_law_write) := ⟨rfl, rfl, rfl, by decide +kernel, rfl, by decide +kernel, by decide +kernel⟩
theorem ok_law_write (W : Wd K mg base) : Can P w K mg base 46 ("_law_write", none) P_law_write (sp_law_write K) := by
  obtain ⟨fd, F⟩ := W.c.def_ 17 (d := d_law_write) rfl
  refine can_ofL F (F.bindsN fun _ _ _ _ _ _ us hl => match us, hl with | [_, _, _], _ => rfl) sc_law_write (fun vs H Q E h => by unfold sp_law_write at h; match vs, h with | [_, _, _], _ => rfl) (t_law_write K) (fun A outer s H E hr => ?_) (pure_law_write (W.err 0 rfl) (W.err 1 rfl))
  have nd := sc_law_write.nd
  exact (pss_cons (ps_set (i := 3) nd rfl (Or.inr rfl) (pe_ix ix_list (pe_lst (pa_cons (pe_callC (ok_law_take W) (hr.mono (by decide)) rfl (W.glo 4 rfl) (passes_call (takes_of rfl rfl rfl rfl) (fun _ _ _ _ h => h)) (pa_cons (pv 0) (pa_consC pe_int pa_nil))) (pa_cons (pe_callC (ok_law_take W) (hr.mono (by decide)) rfl (W.glo 4 rfl) (passes_call (takes_of rfl rfl rfl rfl) (fun _ _ _ _ h => h)) (pa_cons (pv 0) (pa_consC pe_int pa_nil))) (pa_cons (pe_ix ix_list (pe_lst (pa_consC (pe_unN pe_int) (pa_consC pe_int (pa_cons (pe_opC op_pow pe_int pe_int) pa_nil)))) (pe_callC (ok_law_take W) (hr.mono (by decide)) rfl (W.glo 4 rfl) (passes_call (takes_of rfl rfl rfl rfl) (fun _ _ _ _ h => h)) (pa_cons (pv 0) (pa_consC pe_int pa_nil))) (fun _ _ => rfl)) pa_nil)))) (pe_opC op_fdivW (pe_callC (ok_law_take W) (hr.mono (by decide)) rfl (W.glo 4 rfl) (passes_call (takes_of rfl rfl rfl rfl) (fun _ _ _ _ h => h)) (pa_cons (pv 0) (pa_consC pe_int pa_nil))) pe_int) (fun _ _ => rfl)))
    (pss_cons (ps_set (i := 4) nd rfl (Or.inr rfl) (pe_callC (ok_law_what W) (hr.mono (by decide)) rfl (W.glo 43 rfl) (passes_call (takes_of rfl rfl rfl rfl) (fun _ _ _ _ h => h)) (pa_cons (pv 0) pa_nil)))
    (pss_cons (ps_set (i := 5) nd rfl (Or.inl rfl) (pe_tup (pa_consC pe_str (pa_consC pe_int pa_nil))))
    (pss_cons (ps_if (PW.pt (pw_and (pt_chain op_le op_lt pe_int (pv 3) pe_int) (pw_and1 (pt_cmpRC op_le (pe_callC (ok_law_weight W) (hr.mono (by decide)) rfl (W.glo 31 rfl) (passes_call (takes_of rfl rfl rfl rfl) (fun _ _ _ _ h => h)) (pa_cons (pv 4) pa_nil)) pe_int (nomark _))))) (pss_cons (ps_set (i := 5) nd rfl (Or.inl rfl) (pe_ifExp (pt_val (pe_callC (ok_law_count W) (hr.mono (by decide)) rfl (W.glo 44 rfl) (passes_call (takes_of rfl rfl rfl rfl) (fun _ _ _ _ h => h)) (pa_cons (pv 2) pa_nil))) pe_non (pe_tup (pa_consC pe_str (pa_consC pe_int pa_nil)))))
    (pss_one (ps_if (pt_cmpRC op_isN1 (pv 5) pe_non (nomark _)) (pss_one (ps_expr (pe_bm PySem.F.plainAttrs_list PySem.F.slot_list_append PySem.F.type_list_append mt_append (pe_dget (hu_of hr) (pv 2) pe_str (fun _ _ => rfl)) (pa_cons (pe_tup (pa_cons (pv 3) (pa_cons (pv 4) pa_nil))) pa_nil)))) pss_nil))) pss_nil)
    (pss_one (ps_ret (pe_callC (ok_law_alike W) (hr.mono (by decide)) rfl (W.glo 11 rfl) (passes_call (takes_of rfl rfl rfl rfl) (fun _ _ _ _ h => h)) (pa_cons (pe_told (T := Lms_k11) (p0 := ("_law_write", none)) (k := 13) (told_law_told W) W.tab (List.mem_cons_self) rfl rfl (hr.mono (by decide)) (by show lamSB (defScope s_law_write) _ = true; decide +kernel) rfl (fun _ _ _ _ _ => rfl) (fun _ _ _ _ E _ _ hr => (pe_methC (pv 1) (W.cls 37 rfl) (W.meth 45 rfl) (ok_Disk_write W) (hr.mono (by decide)) (passes_call (takes_of rfl rfl rfl rfl) (fun _ _ _ _ h => h)) (pa_cons (pv 3) (pa_cons (pv 4) pa_nil))))) (pa_cons (pv 5) pa_nil)))))))))
theorem sc_Disk_arm : FnScope N_Disk_arm P_Disk_arm (defScope s_Disk_arm) := ⟨rfl, rfl, rfl, by decide +kernel, rfl, by decide +kernel, by decide +kernel⟩
theorem ok_Disk_arm (W : Wd K mg base) : Can P w K mg base 1 ("Disk", some "arm") P_Disk_arm (sp_Disk_arm K) := by
  obtain ⟨fd, F⟩ := W.c.def_ 18 (d := d_Disk_arm) rfl
  refine can_of F (F.bindsN fun _ _ _ _ _ _ us hl => match us, hl with | [_, _, _], _ => rfl) sc_Disk_arm (fun vs H Q E h => by unfold sp_Disk_arm at h; match vs, h with | [_, _, _], _ => rfl) (t_Disk_arm K) (fun cdv A outer s H E hr => ?_) (pure_Disk_arm W.txt_Disk)
  have nd := sc_Disk_arm.nd
  exact (pss_one (ps_if (pt_not (pt_val (pe_fl (pv 0) rfl))) (pss_cons (ps_fl (pv 0) (pe_callB (call_max2 rfl) (by rfl) (W.free 46 rfl) (by decide +kernel) (pa_consC pe_int (pa_cons (pv 1) pa_nil))) rfl)
    (pss_one (ps_fl (pv 0) (pe_callTy1 call_list_of (by rfl) (W.free 0 rfl) (by decide +kernel) (pv 2)) rfl))) pss_nil))
theorem sc_Disk_again : FnScope N_Disk_again P_Disk_again (defScope s_Disk_again) := ⟨rfl, rfl, rfl, by decide +kernel, rfl, by decide +kernel, by decide +kernel⟩
theorem ok_Disk_again (W : Wd K mg base) : Can P w K mg base 1 ("Disk", some "again") P_Disk_again (sp_Disk_again K) := by
  obtain ⟨fd, F⟩ := W.c.def_ 19 (d := d_Disk_again) rfl
  refine can_of F (F.bindsN fun _ _ _ _ _ _ us hl => match us, hl with | [_], _ => rfl) sc_Disk_again (fun vs H Q E h => by unfold sp_Disk_again at h; match vs, h with | [_], _ => rfl) (t_Disk_again K) (fun cdv A outer s H E hr => ?_) (pure_Disk_again W.txt_Disk)
  have nd := sc_Disk_again.nd
  exact (pss_cons (ps_fl (pv 0) (pe_lst pa_nil) rfl)
    (pss_cons (ps_fl (pv 0) pe_non rfl)
    (pss_cons (ps_fl (pv 0) (pe_lst pa_nil) rfl)
    (pss_one (ps_fl (pv 0) pe_bl rfl)))))
theorem sc_law_arms : FnScope N_law_arms P_law_arms (defScope s_law_arms) := ⟨rfl, rfl, rfl, by decide +kernel, rfl, by decide +kernel, by decide +kernel⟩
theorem ok_law_arms (W : Wd K mg base) : Can P w K mg base 2 ("_law_arms", none) P_law_arms (sp_law_arms K) := by
  obtain ⟨fd, F⟩ := W.c.def_ 20 (d := d_law_arms) rfl
  refine can_of F (F.bindsN fun _ _ _ _ _ _ us hl => match us, hl with | [_, _, _], _ => rfl) sc_law_arms (fun vs H Q E h => by unfold sp_law_arms at h; match vs, h with | [_, _, _], _ => rfl) (t_law_arms K) (fun cdv A outer s H E hr => ?_) (pure_law_arms)
  have nd := sc_law_arms.nd
  exact (pss_cons (ps_setLc (i := 3) (own := [("_law_k", 8)]) rfl nd rfl rfl (sw_true rfl rfl rfl (by decide +kernel)) (pi_range1 (by rfl) (W.free 7 rfl) (pa_cons (pe_callC (ok_law_take W) (hr.mono (by decide)) rfl (W.glo 4 rfl) (passes_call (takes_of rfl rfl rfl rfl) (fun _ _ _ _ h => h)) (pa_cons (pv 0) (pa_consC pe_int pa_nil))) pa_nil)) (blkOk_by (own := [("_law_k", 8)]) (N := N_law_arms) (sc := defScope s_law_arms) (by decide +kernel)) (fun _ _ _ _ _ => (pg_name (i := 8) nd rfl (Or.inl rfl))) (fun _ _ _ _ _ => pts_nil) (fun _ _ _ _ _ => (pe_cmpRC op_eq (pe_callC (ok_law_take W) (hr.mono (by decide)) rfl (W.glo 4 rfl) passL (pa_cons (pv 0) (pa_consC pe_int pa_nil))) pe_int (nomark _))))
    (pss_cons (ps_set (i := 4) nd rfl (Or.inl rfl) (pe_callTy1 call_list_of (by rfl) (W.free 0 rfl) (by decide +kernel) (pv 3)))
    (pss_cons (ps_set (i := 5) nd rfl (Or.inl rfl) (pe_callC (ok_law_take W) (hr.mono (by decide)) rfl (W.glo 4 rfl) (passes_call (takes_of rfl rfl rfl rfl) (fun _ _ _ _ h => h)) (pa_cons (pv 0) (pa_consC pe_int pa_nil))))
    (pss_cons (ps_if (pt_cmpRC op_lt (pv 5) pe_int (nomark _)) (pss_cons (ps_set (i := 6) nd rfl (Or.inl rfl) (pe_callC (ok_law_take W) (hr.mono (by decide)) rfl (W.glo 4 rfl) (passes_call (takes_of rfl rfl rfl rfl) (fun _ _ _ _ h => h)) (pa_cons (pv 0) (pa_cons (pe_ix ix_list (pe_lst (pa_consC pe_int (pa_consC pe_int pa_nil))) (pv 5) (fun _ _ => rfl)) pa_nil))))
    (pss_cons (ps_if (pt_not (pt_val (pe_dget (hu_of hr) (pv 2) pe_str (fun _ _ => rfl)))) (pss_cons (ps_dput (hu_of hr) (pv 2) pe_str (pv 6) rfl)
    (pss_one (ps_dput (hu_of hr) (pv 2) pe_str (pv 3) rfl))) pss_nil)
    (pss_one (ps_expr (pe_methC (pv 1) (W.cls 37 rfl) (W.meth 47 rfl) (ok_Disk_arm W) (hr.mono (by decide)) (passes_call (takes_of rfl rfl rfl rfl) (fun _ _ _ _ h => h)) (pa_cons (pv 6) (pa_cons (pv 4) pa_nil))))))) (pss_one (ps_if (pt_cmpRC op_eq (pv 5) pe_int (nomark _)) (pss_cons (ps_expr (pe_callC (ok_law_fall W) (hr.mono (by decide)) rfl (W.glo 33 rfl) (passes_call (takes_of rfl rfl rfl rfl) (fun _ _ _ _ h => h)) (pa_cons (pv 2) (pa_cons (pv 3) pa_nil))))
    (pss_one (ps_expr (pe_methC (pv 1) (W.cls 37 rfl) (W.meth 36 rfl) (ok_Disk_stop W) (hr.mono (by decide)) (passes_call (takes_of rfl rfl rfl rfl) (fun _ _ _ _ h => h)) (pa_cons (pv 4) pa_nil))))) (pss_cons (ps_expr (pe_bm PySem.F.plainAttrs_dict PySem.F.slot_dict_update PySem.F.type_dict_update (mt_dupdateP rfl) (pv 2) (pa_cons (pe_lst (pa_cons (pe_tup (pa_consC pe_str (pa_cons (pe_lst pa_nil) pa_nil))) (pa_cons (pe_tup (pa_consC pe_str (pa_consC pe_non pa_nil))) (pa_cons (pe_tup (pa_consC pe_str (pa_cons (pe_lst pa_nil) pa_nil))) (pa_cons (pe_tup (pa_consC pe_str (pa_consC pe_bl pa_nil))) pa_nil))))) pa_nil)))
    (pss_one (ps_expr (pe_methC0 (pv 1) (W.cls 37 rfl) (W.meth 48 rfl) (ok_Disk_again W) (hr.mono (by decide)) (passes_call (takes_of rfl rfl rfl rfl) (fun _ _ _ _ h => h)))))))))
    (pss_cons (ps_set (i := 7) nd rfl (Or.inl rfl) (pe_cmpR (op_eqD (hu64 hr)) (pv 4) (pv 3) (nomark _)))
    (pss_cons (ps_expr (pe_bm PySem.F.plainAttrs_list PySem.F.slot_list_append PySem.F.type_list_append mt_append (pv 4) (pa_consC pe_bl pa_nil)))
    (pss_one (ps_ret (pv 7)))))))))
theorem sc_Disk_blocks : FnScope N_Disk_blocks P_Disk_blocks (defScope s_Disk_blocks) := ⟨rfl, rfl, rfl, by decide +kernel, rfl, by decide +kernel, by decide +kernel⟩
theorem ok_Disk_blocks (W : Wd K mg base) : Can P w K mg base 1 ("Disk", some "blocks") P_Disk_blocks (sp_Disk_blocks K) := by
  obtain ⟨fd, F⟩ := W.c.def_ 21 (d := d_Disk_blocks) rfl
  refine can_of F (F.bindsN fun _ _ _ _ _ _ us hl => match us, hl with | [_], _ => rfl) sc_Disk_blocks (fun vs H Q E h => by unfold sp_Disk_blocks at h; match vs, h with | [_], _ => rfl) (t_Disk_blocks K) (fun cdv A outer s H E hr => ?_) (pure_Disk_blocks W.txt_Disk)
  have nd := sc_Disk_blocks.nd
  exact (pss_one (ps_ret (pe_callTy1 call_list_of (by rfl) (W.free 0 rfl) (by decide +kernel) (pe_fl (pv 0) rfl))))
theorem sc_Disk_read : FnScope N_Disk_read P_Disk_read (defScope s_Disk_read) := ⟨rfl, rfl, rfl, by decide +kernel, rfl, by decide +kernel, by decide +kernel⟩
theorem ok_Disk_read (W : Wd K mg base) : Can P w K mg base 2 ("Disk", some "read") P_Disk_read (sp_Disk_read K) := by
  obtain ⟨fd, F⟩ := W.c.def_ 22 (d := d_Disk_read) rfl
  refine can_of F (F.bindsN fun _ _ _ _ _ _ us hl => match us, hl with | [_, _], _ => rfl) sc_Disk_read (fun vs H Q E h => by unfold sp_Disk_read at h; match vs, h with | [_, _], _ => rfl) (t_Disk_read K) (fun cdv A outer s H E hr => ?_) (pure_Disk_read W.txt_Disk)
  have nd := sc_Disk_read.nd
  exact (pss_cons (ps_expr (pe_methC (pv 0) (W.cls 37 rfl) (W.meth 40 rfl) (ok_Disk_need_block W) (hr.mono (by decide)) (passes_call (takes_of rfl rfl rfl rfl) (fun _ _ _ _ h => h)) (pa_cons (pv 1) pa_nil)))
    (pss_cons (ps_if (pt_val (pe_fl (pv 0) rfl)) (pss_one (ps_raiseE (W.exc 38 rfl) (W.glo 23 rfl) rfl rfl (takes_of rfl rfl rfl rfl))) pss_nil)
    (pss_cons (ps_for (passes_of rfl) rfl (pi_reversed (by rfl) (W.free 49 rfl) (pa_cons (pe_fl (pv 0) rfl) pa_nil)) (pg_tup rfl (pgs_cons (pg_name (i := 2) nd rfl (Or.inl rfl)) (pgs_cons (pg_name (i := 3) nd rfl (Or.inl rfl)) pgs_nil))) (pss_one (ps_if (pt_cmpR op_eq (pv 2) (pv 1) (nomark _)) (pss_one (ps_ret (pv 3))) pss_nil)))
    (pss_one (ps_ret (pe_ix ix_list (pe_fl (pv 0) rfl) (pv 1) (fun _ _ => rfl)))))))
theorem sc_law_is : FnScope N_law_is P_law_is (defScope s_law_is) := ⟨rfl, rfl, rfl, by decide +kernel, rfl, by decide +kernel, by decide +kernel⟩
theorem ok_law_is (W : Wd K mg base) : Can P w K mg base 46 ("_law_is", none) P_law_is (sp_law_is K) := by
  obtain ⟨fd, F⟩ := W.c.def_ 23 (d := d_law_is) rfl
  refine can_ofL F (F.bindsN fun _ _ _ _ _ _ us hl => match us, hl with | [_, _, _], _ => rfl) sc_law_is (fun vs H Q E h => by unfold sp_law_is at h; match vs, h with | [_, _, _], _ => rfl) (t_law_is K) (fun A outer s H E hr => ?_) (pure_law_is (W.err 0 rfl) (W.err 1 rfl))
  have nd := sc_law_is.nd
  exact (pss_cons (ps_for (passes_of rfl) rfl (pi_range1 (by rfl) (W.free 7 rfl) (pa_consC pe_int pa_nil)) (pg_name (i := 3) nd rfl (Or.inl rfl)) (pss_cons (ps_set (i := 4) nd rfl (Or.inl rfl) (pe_methC0 (pv 1) (W.cls 37 rfl) (W.meth 50 rfl) (ok_Disk_blocks W) (hr.mono (by decide)) (passes_call (takes_of rfl rfl rfl rfl) (fun _ _ _ _ h => h))))
    (pss_cons (ps_if (pt_not (pt_val (pe_callC (ok_law_alike W) (hr.mono (by decide)) rfl (W.glo 11 rfl) (passes_call (takes_of rfl rfl rfl rfl) (fun _ _ _ _ h => h)) (pa_cons (pv 4) (pa_cons (pe_dget (hu_of hr) (pv 2) pe_str (fun _ _ => rfl)) pa_nil))))) (pss_one (ps_ret pe_bl)) pss_nil)
    (pss_one (ps_expr (pe_bm0 PySem.F.plainAttrs_list PySem.F.slot_list_clear PySem.F.type_list_clear mt_clear (pv 4)))))))
    (pss_cons (ps_set (i := 5) nd rfl (Or.inl rfl) (pe_callC (ok_law_take W) (hr.mono (by decide)) rfl (W.glo 4 rfl) (passes_call (takes_of rfl rfl rfl rfl) (fun _ _ _ _ h => h)) (pa_cons (pv 0) (pa_cons (pe_opC op_pow pe_int pe_int) pa_nil))))
    (pss_cons (ps_set (i := 6) nd rfl (Or.inl rfl) (pe_lst (pa_cons (pe_callC (ok_law_take W) (hr.mono (by decide)) rfl (W.glo 4 rfl) (passes_call (takes_of rfl rfl rfl rfl) (fun _ _ _ _ h => h)) (pa_cons (pv 0) (pa_consC pe_int pa_nil))) (pa_cons (pe_callC (ok_law_take W) (hr.mono (by decide)) rfl (W.glo 4 rfl) (passes_call (takes_of rfl rfl rfl rfl) (fun _ _ _ _ h => h)) (pa_cons (pv 0) (pa_consC pe_int pa_nil))) (pa_cons (pe_callC (ok_law_take W) (hr.mono (by decide)) rfl (W.glo 4 rfl) (passes_call (takes_of rfl rfl rfl rfl) (fun _ _ _ _ h => h)) (pa_cons (pv 0) (pa_consC pe_int pa_nil))) (pa_cons (pe_opD op_add pe_int (pv 5)) (pa_cons (pe_opD op_sub (pe_unN pe_int) (pv 5)) (pa_cons (pe_opD op_sub (pe_unN pe_int) (pe_callC (ok_law_take W) (hr.mono (by decide)) rfl (W.glo 4 rfl) (passes_call (takes_of rfl rfl rfl rfl) (fun _ _ _ _ h => h)) (pa_cons (pv 0) (pa_consC pe_int pa_nil)))) pa_nil))))))))
    (pss_cons (ps_set (i := 7) nd rfl (Or.inr rfl) (pe_ix ix_list (pv 6) (pe_callC (ok_law_take W) (hr.mono (by decide)) rfl (W.glo 4 rfl) (passes_call (takes_of rfl rfl rfl rfl) (fun _ _ _ _ h => h)) (pa_cons (pv 0) (pa_consC pe_int pa_nil))) (fun _ _ => rfl)))
    (pss_cons (ps_set (i := 8) nd rfl (Or.inl rfl) (pe_tup (pa_consC pe_str (pa_consC pe_int pa_nil))))
    (pss_cons (ps_if (pt_chain op_le op_lt pe_int (pv 7) pe_int) (pss_cons (ps_setLc (i := 9) (own := [("_law_one", 11), ("_law_what_here", 12)]) rfl nd rfl rfl (sw_true rfl rfl rfl (by decide +kernel)) (pi_list (pe_dget (hu_of hr) (pv 2) pe_str (fun _ _ => rfl))) (blkOk_by (own := [("_law_one", 11), ("_law_what_here", 12)]) (N := N_law_is) (sc := defScope s_law_is) (by decide +kernel)) (fun _ _ _ _ _ => (pg_tup rfl (pgs_cons (pg_name (i := 11) nd rfl (Or.inl rfl)) (pgs_cons (pg_name (i := 12) nd rfl (Or.inl rfl)) pgs_nil)))) (fun _ _ _ _ _ => (pts_one (pt_cmpR op_eq (pv 11) (pv 7) (nomark _)))) (fun _ _ _ _ _ => (pv 12)))
    (pss_cons (ps_set (i := 10) nd rfl (Or.inl rfl) (pe_ifExp (pt_cmpR (opx_eqE (hu_of hr)) (pv 9) (pe_lst pa_nil) (nomark _)) (pe_ix ix_list (pe_dget (hu_of hr) (pv 2) pe_str (fun _ _ => rfl)) (pv 7) (fun _ _ => rfl)) (pe_ixC ix_list (pv 9) (pe_unN pe_int) (fun _ _ => rfl))))
    (pss_one (ps_set (i := 8) nd rfl (Or.inl rfl) (pe_ifExp (pt_val (pe_dget (hu_of hr) (pv 2) pe_str (fun _ _ => rfl))) (pe_tup (pa_consC pe_str (pa_consC pe_int pa_nil))) (pv 10)))))) pss_nil)
    (pss_one (ps_ret (pe_callC (ok_law_alike W) (hr.mono (by decide)) rfl (W.glo 11 rfl) (passes_call (takes_of rfl rfl rfl rfl) (fun _ _ _ _ h => h)) (pa_cons (pe_told (T := Lms_k11) (p0 := ("_law_is", none)) (k := 2) (told_law_told W) W.tab (List.mem_cons_of_mem _ (List.mem_cons_self)) rfl rfl (hr.mono (by decide)) (by show lamSB (defScope s_law_is) _ = true; decide +kernel) rfl (fun _ _ _ _ _ => rfl) (fun _ _ _ _ E _ _ hr => (pe_methC (pv 1) (W.cls 37 rfl) (W.meth 51 rfl) (ok_Disk_read W) (hr.mono (by decide)) (passes_call (takes_of rfl rfl rfl rfl) (fun _ _ _ _ h => h)) (pa_cons (pv 7) pa_nil)))) (pa_cons (pv 8) pa_nil)))))))))))
theorem sc_Disk_settle : FnScope N_Disk_settle P_Disk_settle (defScope s_Disk_settle) := ⟨rfl, rfl, rfl, by decide +kernel, rfl, by decide +kernel, by decide +kernel⟩
theorem ok_Disk_settle (W : Wd K mg base) : Can P w K mg base 3 ("Disk", some "settle") P_Disk_settle (sp_Disk_settle K) := by
  obtain ⟨fd, F⟩ := W.c.def_ 24 (d := d_Disk_settle) rfl
  refine can_of F (F.bindsN fun _ _ _ _ _ _ us hl => match us, hl with | [_], _ => rfl) sc_Disk_settle (fun vs H Q E h => by unfold sp_Disk_settle at h; match vs, h with | [_], _ => rfl) (t_Disk_settle K) (fun cdv A outer s H E hr => ?_) (pure_Disk_settle W.txt_Disk)
  have nd := sc_Disk_settle.nd
  exact (pss_cons (ps_expr (pe_methC0 (pv 0) (W.cls 37 rfl) (W.meth 42 rfl) (ok_Disk_deed W) (hr.mono (by decide)) (passes_call (takes_of rfl rfl rfl rfl) (fun _ _ _ _ h => h))))
    (pss_cons (ps_for (passes_of rfl) rfl (pi_list (pe_fl (pv 0) rfl)) (pg_tup rfl (pgs_cons (pg_name (i := 1) nd rfl (Or.inl rfl)) (pgs_cons (pg_name (i := 2) nd rfl (Or.inl rfl)) pgs_nil))) (pss_one (ps_asg (pv 2) (pg_sub (pe_fl (pv 0) rfl) (pv 1) set_list))))
    (pss_one (ps_fl (pv 0) (pe_lst pa_nil) rfl))))
theorem sc_law : FnScope N_law P_law (defScope s_law) := ⟨rfl, rfl, rfl, by decide +kernel, rfl, by decide +kernel, by decide +kernel⟩
theorem fn_law (W : Wd K mg base) {fd : FuncData} (F : FunD K d_law.name d_law.qual d_law.params d_law.body d_law.scope [] [] (He.fAd K d_law.at_) fd) : FnOk P w K mg base (L2.CX P w) 47 (He.fAd K d_law.at_) fd P_law (sp_law K) := by
  refine fn_ofL F sc_law (fun vs H Q E h => by unfold sp_law at h; match vs, h with | [_], _ => rfl) (t_law K) (fun A outer s H E hr => ?_) (pure_law W.txt_Disk (W.err 1 rfl))
  have nd := sc_law.nd
  exact (pss_cons (ps_set (i := 1) nd rfl (Or.inl rfl) (pe_callC (ok_law_begun W) (hr.mono (by decide)) rfl (W.glo 52 rfl) (passes_call (takes_of rfl rfl rfl rfl) (fun _ _ _ _ h => h)) (pa_cons (pv 0) pa_nil)))
    (pss_cons (ps_set (i := 2) nd rfl (Or.inl rfl) (pe_lst (pa_cons (pe_tup (pa_cons (pe_makeC0 (W.mkr 53 rfl) (ok_Disk___init__ W) (hr.mono (by decide)) rfl (W.glo 54 rfl) (passes_call (takes_of rfl rfl rfl rfl) (fun _ _ _ _ h => h))) (pa_cons (pe_callC0 (ok_law_made W) (hr.mono (by decide)) rfl (W.glo 55 rfl) (passes_call (takes_of rfl rfl rfl rfl) (fun _ _ _ _ h => h))) pa_nil))) (pa_cons (pe_tup (pa_cons (pe_makeC0 (W.mkr 53 rfl) (ok_Disk___init__ W) (hr.mono (by decide)) rfl (W.glo 54 rfl) (passes_call (takes_of rfl rfl rfl rfl) (fun _ _ _ _ h => h))) (pa_cons (pe_callC0 (ok_law_made W) (hr.mono (by decide)) rfl (W.glo 55 rfl) (passes_call (takes_of rfl rfl rfl rfl) (fun _ _ _ _ h => h))) pa_nil))) pa_nil))))
    (pss_cons (ps_for (passes_of rfl) rfl (pi_range1 (by rfl) (W.free 7 rfl) (pa_cons (pe_callC (ok_law_take W) (hr.mono (by decide)) rfl (W.glo 4 rfl) (passes_call (takes_of rfl rfl rfl rfl) (fun _ _ _ _ h => h)) (pa_cons (pv 1) (pa_consC pe_int pa_nil))) pa_nil)) (pg_name (i := 3) nd rfl (Or.inl rfl)) (pss_cons (ps_asg (pe_ix ix_list (pv 2) (pe_opC op_fdivW (pe_callC (ok_law_take W) (hr.mono (by decide)) rfl (W.glo 4 rfl) (passes_call (takes_of rfl rfl rfl rfl) (fun _ _ _ _ h => h)) (pa_cons (pv 1) (pa_consC pe_int pa_nil))) pe_int) (fun _ _ => rfl)) (pg_tup rfl (pgs_cons (pg_name (i := 4) nd rfl (Or.inr rfl)) (pgs_cons (pg_name (i := 5) nd rfl (Or.inl rfl)) pgs_nil))))
    (pss_cons (ps_set (i := 6) nd rfl (Or.inl rfl) (pe_callC (ok_law_take W) (hr.mono (by decide)) rfl (W.glo 4 rfl) (passes_call (takes_of rfl rfl rfl rfl) (fun _ _ _ _ h => h)) (pa_cons (pv 1) (pa_consC pe_int pa_nil))))
    (pss_cons (ps_if (pt_cmpRC op_lt (pv 6) pe_int (nomark _)) (pss_one (ps_set (i := 7) nd rfl (Or.inl rfl) (pe_callC (ok_law_write W) (hr.mono (by decide)) rfl (W.glo 56 rfl) (passes_call (takes_of rfl rfl rfl rfl) (fun _ _ _ _ h => h)) (pa_cons (pv 1) (pa_cons (pv 4) (pa_cons (pv 5) pa_nil)))))) (pss_one (ps_if (pt_cmpRC op_lt (pv 6) pe_int (nomark _)) (pss_cons (ps_set (i := 8) nd rfl (Or.inl rfl) (pe_ifExp (pt_val (pe_callC (ok_law_count W) (hr.mono (by decide)) rfl (W.glo 44 rfl) (passes_call (takes_of rfl rfl rfl rfl) (fun _ _ _ _ h => h)) (pa_cons (pv 5) pa_nil))) pe_non (pe_tup (pa_consC pe_str (pa_consC pe_int pa_nil)))))
    (pss_cons (ps_if (pt_cmpRC op_isN1 (pv 8) pe_non (nomark _)) (pss_cons (ps_for (passes_of rfl) rfl (pi_list (pe_dget (hu_of hr) (pv 5) pe_str (fun _ _ => rfl))) (pg_tup rfl (pgs_cons (pg_name (i := 9) nd rfl (Or.inl rfl)) (pgs_cons (pg_name (i := 10) nd rfl (Or.inl rfl)) pgs_nil))) (pss_one (ps_asg (pv 10) (pg_sub (pe_dget (hu_of hr) (pv 5) pe_str (fun _ _ => rfl)) (pv 9) set_list))))
    (pss_one (ps_dput (hu_of hr) (pv 5) pe_str (pe_lst pa_nil) rfl))) pss_nil)
    (pss_one (ps_set (i := 7) nd rfl (Or.inl rfl) (pe_callC (ok_law_alike W) (hr.mono (by decide)) rfl (W.glo 11 rfl) (passes_call (takes_of rfl rfl rfl rfl) (fun _ _ _ _ h => h)) (pa_cons (pe_told (T := Lms_k11) (p0 := ("law", none)) (k := 3) (told_law_told W) W.tab (List.mem_cons_of_mem _ (List.mem_cons_of_mem _ (List.mem_cons_self))) rfl rfl (hr.mono (by decide)) (by show lamSB (defScope s_law) _ = true; decide +kernel) rfl (fun _ _ _ _ _ => rfl) (fun _ _ _ _ E _ _ hr => (pe_methC0 (pv 4) (W.cls 37 rfl) (W.meth 57 rfl) (ok_Disk_settle W) (hr.mono (by decide)) (passes_call (takes_of rfl rfl rfl rfl) (fun _ _ _ _ h => h))))) (pa_cons (pv 8) pa_nil))))))) (pss_one (ps_set (i := 7) nd rfl (Or.inl rfl) (pe_callC (ok_law_arms W) (hr.mono (by decide)) rfl (W.glo 58 rfl) (passes_call (takes_of rfl rfl rfl rfl) (fun _ _ _ _ h => h)) (pa_cons (pv 1) (pa_cons (pv 4) (pa_cons (pv 5) pa_nil)))))))))
    (pss_one (ps_if (PW.pt (pw_or (pt_not (pt_val (pv 7))) (pw_or (pt_not (pt_val (pe_callC (ok_law_is W) (hr.mono (by decide)) rfl (W.glo 59 rfl) (passes_call (takes_of rfl rfl rfl rfl) (fun _ _ _ _ h => h)) (pa_cons (pv 1) (pa_cons (pe_ixC ix_tup (pe_ixC ix_list (pv 2) pe_int (fun _ _ => rfl)) pe_int (fun _ _ => rfl)) (pa_cons (pe_ixC ix_tup (pe_ixC ix_list (pv 2) pe_int (fun _ _ => rfl)) pe_int (fun _ _ => rfl)) pa_nil)))))) (pw_or1 (pt_not (pt_val (pe_callC (ok_law_is W) (hr.mono (by decide)) rfl (W.glo 59 rfl) (passes_call (takes_of rfl rfl rfl rfl) (fun _ _ _ _ h => h)) (pa_cons (pv 1) (pa_cons (pe_ixC ix_tup (pe_ixC ix_list (pv 2) pe_int (fun _ _ => rfl)) pe_int (fun _ _ => rfl)) (pa_cons (pe_ixC ix_tup (pe_ixC ix_list (pv 2) pe_int (fun _ _ => rfl)) pe_int (fun _ _ => rfl)) pa_nil)))))))))) (pss_one (ps_ret pe_bl)) pss_nil))))))
    (pss_one (ps_ret pe_bl)))))
end
end Lw
namespace Lw
open PySem PySem.Spec PyProof.Rows L2 Rs
/-- a promise that holds whatever may be raised: nothing is -/
theorem calm {P : Program} {w : World} {K : PySem.W.Frag} {mg : Str → Option Value} {base : Heap} {k : Nat} {f : Addr} {fd : FuncData} {ps : List Str} {sp : Sp} (F : FnOk P w K mg base (L2.CX P w) k f fd ps sp) (hE : ∀ vs H Q E, sp vs H Q E → sp vs H Q E0) : FnOk P w K mg base CX0 k f fd ps sp :=
  ⟨F.len, fun A outer s H args us vs Q E hr he hb hv hs => codeAny_mono (F.run A outer s H args us vs Q E0 hr he hb hv (hE _ _ _ _ hs)) fun r s' h => by
    cases r with
    | error e =>
      obtain ⟨_, _, _, _, _, _, _, _, _, _, _, _, hf⟩ := h
      exact hf.elim
    | ok fl => cases fl <;> exact h⟩
end Lw
open PySem PySem.W PySem.Calls PyProof.Rows
theorem PySem.Challenge.cw_runsorts_k11_disks_holds : PySem.Challenge.rw_runsorts_k11_disks.Holds := by
  w_on; o_law
  refine HandSHeadRun.head_any (r := OpenLaw.row PySem.Challenge.rw_runsorts_k11_disks) (q := view (OpenLaw.row PySem.Challenge.rw_runsorts_k11_disks).prog [38]) (H := Lw.hk) (ob := Lw.ob) (M := 15000) (loose := Lw.loose) (d := HandSHeadRun.topDef (OpenLaw.row PySem.Challenge.rw_runsorts_k11_disks).prog 38) (kwd := []) Lw.ob_eq
    (by kernel_rfl) (fun s => by kernel_rfl) Lw.run (by kernel_rfl) (by kernel_rfl) (by kernel_rfl) (by rfl) (by first | assumption | decide +kernel) (by decide +kernel) ⟨rfl, rfl, rfl, rfl, rfl, by decide +kernel⟩ ?hw ?hc
  case hw => w_witness2
  case hc =>
    refine LamX.walk_ofTsE (l := PySem.Challenge.rw_runsorts_k11_disks) (n := 63) (k := 47) (x := "_law_script") (CX := fun _ => L2.CX0) rfl (by decide) (by kernel_rfl) ⟨rfl, by decide, by decide⟩ ?F (fun _ _ _ _ _ z => z)
    intro w mg fa h Y G hmg0
    obtain ⟨K, KX, c⟩ := Y
    have hmg : mg ("law" : PySem.Str) = some (.ref fa) := by
      have e : (HandSHeadRun.topDef (OpenLaw.row PySem.Challenge.rw_runsorts_k11_disks).prog 38).name = ("law" : PySem.Str) := by kernel_rfl
      rw [← e]
      exact hmg0
    obtain ⟨fd, F⟩ := c.m.def_ 25 (d := Lw.d_law) rfl
    have e := hmg.symm.trans (He.glo_ok KX G (Lw.says_fact c.m 60 (f := .glo "law") rfl))
    cases e
    have b := L2.FunD.bindsA (ps := ["_law_script"]) F fun _ _ _ _ _ _ us hl => match us, hl with | [_], _ => rfl
    refine ⟨K, KX, fd, Lw.tf.map fun p => He.cT K p, Rs.sp_law K, ?_, ?_, ?_, fun s v => b s [v] rfl, fun H a ns hl _ hT hS => ⟨a, ns, rfl, hS, hl, ?_, fun _ => rfl⟩, fun base _ _ TB => Lw.calm (Lw.fn_law ⟨c.m, ⟨h, KX, G⟩, ⟨?_, Lw.nodup_tabs c.m⟩⟩ F) fun vs H Q E h => h⟩
    · intro p hp
      obtain ⟨q, hq, rfl⟩ := List.mem_map.mp hp
      exact c.empty q hq
    · intro p hp
      obtain ⟨q, hq, rfl⟩ := List.mem_map.mp hp
      exact c.out q hq
    · intro p hp
      obtain ⟨q, hq, rfl⟩ := List.mem_map.mp hp
      exact PySem.W.codeHd_of_K KX (c.hd q hq)
    · exact Lw.tabs_start H fun q hq => hT _ (List.mem_map.mpr ⟨q, hq, rfl⟩)
    · intro p hp
      exact TB _ (List.mem_map.mpr ⟨p.1, Lw.lms_tf p hp, rfl⟩)
