import PyProof.Rows.All
import Wide.All
import OpenK.AllK
import Wide.FinOn
import KE.KStateDown
import Lean
import HandS.ForMost
import HandS.ForExc
import HandS.Flow
import HandS.Wide
import HandS.TupAny
import HandS.Zip
import HandS.IsInst
import HandS.Steps
import HandS.More
import HandS.Conv
import HandS.Deep
import HandS.Walk
import HandS.Defaults
import HandS.Head0
import HandS.Head1
import HandS.Head2
import HandS.HeadEnd
import HandS.HeadHook1
import HandS.HeadHook2
import HandS.Exc
import HandS.ExcOwn
import HandS.TryOnly
import HandS.Style
import HandS.Lambda
import HandS.HotCalls
import HandS.ExcIs
import HandS.ExcField
import HandS.HeadHook3
import HandS.HeadHook4
import HandS.EndTab
import HandS.HeadWalk
import HandS.ExcInit
import HandS.WordsExc
import HandS.Codes
import HandS.Ends
import HandS.Words
import PySem.Challenge.RW_runsorts_k01_sieves
set_option Elab.async false
set_option linter.all false
set_option maxRecDepth 100000
set_option maxHeartbeats 4000000
/-! the head: facts by names, told over the objects that the module's names reach -/
namespace Hx
open PySem PySem.Spec PyProof.Rows L2
def obj1 (g : Addr → Option Obj) (v : Value) : List Addr := match v with
  | .ref b => (match g b with
    | some ⟨_, _, .func fd, _⟩ => b :: (He.refV fd.code ++ He.refV fd.defaults)
    | _ => [b])
  | _ => []
def obj2 (g : Addr → Option Obj) (v : Value) : List Addr := match v with
  | .ref b => (match g b with
    | some ⟨_, _, .func fd, _⟩ => b :: (He.refV fd.code ++ He.refV fd.defaults)
    | some ⟨_, _, .cls cd, _⟩ => b :: cd.ns :: (match g cd.ns with
      | some ⟨_, _, .dict es _, _⟩ => es.toList.flatMap fun e => obj1 g e.val
      | _ => [])
    | _ => [b])
  | _ => []
def asX (g : Addr → Option Obj) : List Addr := cStatics :: mainGlobals :: (match g mainGlobals with
  | some ⟨_, _, .dict es _, _⟩ => es.toList.flatMap fun e => obj2 g e.val
  | _ => [])
abbrev Fs : Type := List (PySem.W.Frag → Bool)
def obsM (fs : Fs) (fn : List He.DefD) (K : PySem.W.Frag) : He.AlD := ((fs.all fun f => f K) && fn.all fun d => d.ok K, fn.map fun d => He.fnW K d.at_)
def SaysM (fs : Fs) (fn : List He.DefD) (K : PySem.W.Frag) : Prop := obsM fs fn K = He.valD fn
def obsMG (fs : Fs) (fn : List He.DefD) (g : Addr → Option Obj) : He.AlD := obsM fs fn (He.frG g (asX g))
def hookM (fs : Fs) (fn : List He.DefD) : PySem.W.Hook where
  α := He.AlD
  obs := fun s => obsMG fs fn s.heap.get?
  val := fun _ => He.valD fn
  says := fun _ h => ∃ K : PySem.W.Frag, K.In h ∧ SaysM fs fn K
  of := fun _ _ e => ⟨_, He.frG_in, e⟩
  keeps := fun _ _ _ ⟨K, hK, c⟩ k => ⟨K, PySem.W.Frag.In.keeps hK k, c⟩
theorem obsMG_eq {fs : Fs} {fn : List He.DefD} {g : Addr → Option Obj} {s : Shared} (h : ∀ a, g a = s.heap.get? a) : obsMG fs fn g = (hookM fs fn).obs s := by
  have e : g = s.heap.get? := funext h
  rw [e] <;> rfl
section
variable {fs : Fs} {fn : List He.DefD} {K : PySem.W.Frag}
theorem SaysM.fact (c : SaysM fs fn K) (i : Nat) {f : PySem.W.Frag → Bool} (h : fs[i]? = some f := by rfl) : f K = true := by
  have c1 := (He.ba (show ((fs.all fun f => f K) && fn.all fun d => d.ok K) = true from congrArg (fun z : He.AlD => z.1) c)).1
  exact List.all_eq_true.mp c1 f (List.mem_of_getElem? h)
theorem SaysM.def_ (c : SaysM fs fn K) (i : Nat) {d : He.DefD} (h : fn[i]? = some d := by rfl) : ∃ fd, FunD K d.name d.qual d.params d.body d.scope (d.dvs K) (d.kws K) (He.fAd K d.at_) fd := by
  have c2 := (He.ba (show ((fs.all fun f => f K) && fn.all fun d => d.ok K) = true from congrArg (fun z : He.AlD => z.1) c)).2
  have e : fn.map (fun d => He.fnW K d.at_) = fn.map He.DefD.val := congrArg (fun z : He.AlD => z.2) c
  have e2 : (fn.map fun d => He.fnW K d.at_)[i]? = (fn.map He.DefD.val)[i]? := by rw [e]
  rw [List.getElem?_map, List.getElem?_map, h] at e2
  exact He.DefD.funD (Option.some.inj e2) (List.all_eq_true.mp c2 d (List.mem_of_getElem? h))
end
end Hx

/-! the same, the tables of the defs that make lambdas told beside -/
namespace Hx
open PySem PySem.Spec PyProof.Rows L2
structure SaysMT (fs : Fs) (fn : List He.DefD) (tf : List He.Defn) (h : Heap) (K : PySem.W.Frag) : Prop where
  m : SaysM fs fn K
  hd : ∀ p ∈ tf, PySem.W.codeHdIn K (He.cT K p).1 (He.cT K p).2 = true
  out : ∀ p ∈ tf, K.lookup (He.cT K p).2 = none
  empty : ∀ p ∈ tf, h.get? (He.cT K p).2 = some { cls := .none, data := .fields #[] }
def obsMT (fs : Fs) (fn : List He.DefD) (tf : List He.Defn) (g : Addr → Option Obj) : He.AlD × Bool := (obsM fs fn (He.frT g (asX g)), He.tabsB g tf (He.frT g (asX g)))
theorem saysMT_of {fs : Fs} {fn : List He.DefD} {tf : List He.Defn} {h : Heap} (e : obsMT fs fn tf h.get? = (He.valD fn, true)) : SaysMT fs fn tf h (He.frT h.get? (asX h.get?)) := by
  have e1 : obsM fs fn (He.frT h.get? (asX h.get?)) = He.valD fn := congrArg (fun z : He.AlD × Bool => z.1) e
  have e2 : He.tabsB h.get? tf (He.frT h.get? (asX h.get?)) = true := congrArg (fun z : He.AlD × Bool => z.2) e
  have at_ : ∀ p ∈ tf, PySem.W.codeHdIn (He.frT h.get? (asX h.get?)) (He.cT (He.frT h.get? (asX h.get?)) p).1 (He.cT (He.frT h.get? (asX h.get?)) p).2 = true ∧ ∃ o, h.get? (He.cT (He.frT h.get? (asX h.get?)) p).2 = some o ∧ He.emptyTab o = true := fun p hp => by
    obtain ⟨g1, g2⟩ := He.ba (List.all_eq_true.mp e2 p hp)
    refine ⟨g1, ?_⟩
    revert g2
    cases h.get? (He.cT (He.frT h.get? (asX h.get?)) p).2 with
    | none => exact fun z => (nomatch z)
    | some o => exact fun z => ⟨o, rfl, z⟩
  exact ⟨e1, fun p hp => (at_ p hp).1, fun p hp => (at_ p hp).2.elim fun o z => He.frT_none z.1 z.2, fun p hp => (at_ p hp).2.elim fun o z => by rw [z.1, He.emptyTab_eq z.2]⟩
def hookMT (fs : Fs) (fn : List He.DefD) (tf : List He.Defn) : PySem.W.Hook where
  α := He.AlD × Bool
  obs := fun s => obsMT fs fn tf s.heap.get?
  val := fun _ => (He.valD fn, true)
  says := fun _ h => ∃ K : PySem.W.Frag, K.In h ∧ SaysMT fs fn tf h K
  of := fun _ _ e => ⟨_, He.frT_in, saysMT_of e⟩
  keeps := fun _ _ _ ⟨K, hK, c⟩ k => ⟨K, PySem.W.Frag.In.keeps hK k, ⟨c.m, c.hd, c.out, fun p hp => k _ _ (c.empty p hp)⟩⟩
theorem obsMT_eq {fs : Fs} {fn : List He.DefD} {tf : List He.Defn} {g : Addr → Option Obj} {s : Shared} (h : ∀ a, g a = s.heap.get? a) : obsMT fs fn tf g = (hookMT fs fn tf).obs s := by
  have e : g = s.heap.get? := funext h
  rw [e] <;> rfl
end Hx

namespace Rs
open PySem PySem.Spec PyProof.Rows L2
def errNames : List Str := ["BadKinds", "BadOrder", "BadRows", "BadRuns", "BadRoom", "BadLengths", "BadPlan", "BadPaper", "BadCount", "BadBlock", "Stopped", "Shut", "NotYet", "Empty", "BadText"]
def excCB (K : PySem.W.Frag) (D : Addr) : Bool :=
  decide (PySem.W.findIn K (.ref D) "__getattribute__" = some (some (.builtin "BaseException.__getattribute__"))) && (decide (PySem.W.findIn K (.ref D) "__getattr__" = some none) && (decide (PySem.W.subIn K (.ref D) (.type "BaseException") = some true) && (PySem.W.hasDictIn K D &&
    (decide (PySem.W.findIn K (.ref D) "__class__" = some (some (.builtin "object.__class__"))) && (decide (PySem.W.specialIn K (.builtin "object.__class__") "__get__" = some (some (.builtin "getset_descriptor.__get__"))) && (decide (PySem.W.takesIn K (.builtin "object.__class__") = some true) && decide (PySem.W.mroIn K D (.type "object") = some true)))))))
def errB (x : Str) (K : PySem.W.Frag) : Bool :=
  decide (x ∈ errNames) && (excCB K (He.ga K x) && ((errNames.all fun y => decide (PySem.W.kitOne K (.ref (He.ga K x)) (.ref (He.ga K y)) = some (decide (x = y)))) && (decide (PySem.W.kitOne K (.ref (He.ga K x)) (.type "ValueError") = some true) && decide (PySem.W.exmOne K (.ref (He.ga K x)) (.ref (He.ga K "SortError")) = some true))))
def overB (K : PySem.W.Frag) (C : Addr) : Bool := match K.lookup C with
  | some ⟨.type "type", _, .cls cd, sl⟩ => (match cd.mro, sl.toList with
    | .ref C' :: bm, [_, _, _, _, some (.builtin n), _] => C' == C && (n == "ValueError.__new__" && (!cd.hasDel && (cd.hasDict && PySem.HandSPX.refsVE bm)))
    | _, _ => false)
  | _ => false
def emB (x f : Str) (K : PySem.W.Frag) : Bool :=
  overB K (He.ga K x) && (decide (PySem.W.findIn K (.ref (He.ga K x)) "__setattr__" = some (some (.builtin "object.__setattr__"))) && (decide (PySem.W.subIn K (.ref (He.ga K x)) (.type "BaseException") = some true) && (decide (PySem.W.typeIn K (.ref (He.ga K x)) = some (.type "type")) && (PySem.W.keepIn K (.ref (He.ga K x)) &&
    (decide (PySem.W.findIn K (.ref (He.ga K x)) f = some none) && (decide (PySem.W.findIn K (.ref (He.ga K x)) "__init__" = some (some (.ref (He.fAd K (x, some "__init__"))))) && (decide (PySem.W.typeIn K (.ref (He.fAd K (x, some "__init__"))) = some (.type "function")) &&
      (decide (PySem.W.specialIn K (.ref (He.ga K "SortError")) "__getattribute__" = some (some (.builtin "type.__getattribute__"))) && (PySem.W.readsIn K (He.ga K "SortError") (.type "type") && (match PySem.W.findCls K (.ref (He.ga K "SortError")) (.type "type") "__init__" with | some (.val (.builtin n)) => n == "ValueError.__init__" | _ => false))))))))))
end Rs
namespace Lw
open PySem PySem.Spec PyProof.Rows L2 Rs LamX
/-! ### the text by places -/
def top (i : Nat) : Stmt := PySem.Challenge.pw_runsorts_k01_sieves.main.body.getD i (.Pass ⟨0, 0, 0, 0⟩)
abbrev s_law_begun : Stmt := top 38
def d_law_begun : He.DefD := ⟨("_law_begun", none), "_law_begun", "_law_begun", defArgs s_law_begun, defBody s_law_begun, defScope s_law_begun, [], []⟩
abbrev s_law_take : Stmt := top 39
def d_law_take : He.DefD := ⟨("_law_take", none), "_law_take", "_law_take", defArgs s_law_take, defBody s_law_take, defScope s_law_take, [], []⟩
abbrev s_law_kinds : Stmt := top 44
def d_law_kinds : He.DefD := ⟨("_law_kinds", none), "_law_kinds", "_law_kinds", defArgs s_law_kinds, defBody s_law_kinds, defScope s_law_kinds, [], []⟩
abbrev s_law_order : Stmt := top 45
def d_law_order : He.DefD := ⟨("_law_order", none), "_law_order", "_law_order", defArgs s_law_order, defBody s_law_order, defScope s_law_order, [], []⟩
abbrev s_law_value : Stmt := top 46
def d_law_value : He.DefD := ⟨("_law_value", none), "_law_value", "_law_value", defArgs s_law_value, defBody s_law_value, defScope s_law_value, [], []⟩
abbrev s_law_rows : Stmt := top 47
def d_law_rows : He.DefD := ⟨("_law_rows", none), "_law_rows", "_law_rows", defArgs s_law_rows, defBody s_law_rows, defScope s_law_rows, [], []⟩
abbrev s_law_alike : Stmt := top 40
def d_law_alike : He.DefD := ⟨("_law_alike", none), "_law_alike", "_law_alike", defArgs s_law_alike, defBody s_law_alike, defScope s_law_alike, [], []⟩
abbrev s_law_ahead : Stmt := top 48
def d_law_ahead : He.DefD := ⟨("_law_ahead", none), "_law_ahead", "_law_ahead", defArgs s_law_ahead, defBody s_law_ahead, defScope s_law_ahead, [], []⟩
abbrev s_law_sorted : Stmt := top 49
def d_law_sorted : He.DefD := ⟨("_law_sorted", none), "_law_sorted", "_law_sorted", defArgs s_law_sorted, defBody s_law_sorted, defScope s_law_sorted, [], []⟩
abbrev s_law_bad_row : Stmt := top 51
def d_law_bad_row : He.DefD := ⟨("_law_bad_row", none), "_law_bad_row", "_law_bad_row", defArgs s_law_bad_row, defBody s_law_bad_row, defScope s_law_bad_row, [], []⟩
abbrev s_law_class : Stmt := top 41
def d_law_class : He.DefD := ⟨("_law_class", none), "_law_class", "_law_class", defArgs s_law_class, defBody s_law_class, defScope s_law_class, [], []⟩
abbrev s_law_told : Stmt := top 42
def d_law_told : He.DefD := ⟨("_law_told", none), "_law_told", "_law_told", defArgs s_law_told, defBody s_law_told, defScope s_law_told, [], []⟩
abbrev s_law_all : Stmt := top 43
def d_law_all : He.DefD := ⟨("_law_all", none), "_law_all", "_law_all", defArgs s_law_all, defBody s_law_all, defScope s_law_all, [], []⟩
abbrev s_Room_swap : Stmt := inClass (top 35) 3
def d_Room_swap : He.DefD := ⟨("Room", some "swap"), "swap", "Room.swap", defArgs s_Room_swap, defBody s_Room_swap, defScope s_Room_swap, [], []⟩
abbrev s_is_before : Stmt := top 33
def d_is_before : He.DefD := ⟨("is_before", none), "is_before", "is_before", defArgs s_is_before, defBody s_is_before, defScope s_is_before, [], []⟩
abbrev s_Room_is_less : Stmt := inClass (top 35) 1
def d_Room_is_less : He.DefD := ⟨("Room", some "is_less"), "is_less", "Room.is_less", defArgs s_Room_is_less, defBody s_Room_is_less, defScope s_Room_is_less, [], []⟩
abbrev s_Room_lesser : Stmt := inClass (top 35) 4
def d_Room_lesser : He.DefD := ⟨("Room", some "lesser"), "lesser", "Room.lesser", defArgs s_Room_lesser, defBody s_Room_lesser, defScope s_Room_lesser, [], []⟩
abbrev s_Room_take : Stmt := inClass (top 35) 5
def d_Room_take : He.DefD := ⟨("Room", some "take"), "take", "Room.take", defArgs s_Room_take, defBody s_Room_take, defScope s_Room_take, [], []⟩
abbrev s_Room_many_in : Stmt := inClass (top 35) 7
def d_Room_many_in : He.DefD := ⟨("Room", some "many_in"), "many_in", "Room.many_in", defArgs s_Room_many_in, defBody s_Room_many_in, defScope s_Room_many_in, [], []⟩
abbrev s_Sieve_takeX : Stmt := inClass (top 36) 2
def d_Sieve_takeX : He.DefD := ⟨("Sieve", some "take"), "take", "Sieve.take", defArgs s_Sieve_takeX, defBody s_Sieve_takeX, defScope s_Sieve_takeX, [], []⟩
abbrev s_Room_put : Stmt := inClass (top 35) 2
def d_Room_put : He.DefD := ⟨("Room", some "put"), "put", "Room.put", defArgs s_Room_put, defBody s_Room_put, defScope s_Room_put, [], []⟩
abbrev s_Room___init__ : Stmt := inClass (top 35) 0
def d_Room___init__ : He.DefD := ⟨("Room", some "__init__"), "__init__", "Room.__init__", defArgs s_Room___init__, defBody s_Room___init__, defScope s_Room___init__, [], []⟩
abbrev s_need_kinds : Stmt := top 27
def d_need_kinds : He.DefD := ⟨("need_kinds", none), "need_kinds", "need_kinds", defArgs s_need_kinds, defBody s_need_kinds, defScope s_need_kinds, [], []⟩
abbrev s_is_turn : Stmt := top 28
def d_is_turn : He.DefD := ⟨("is_turn", none), "is_turn", "is_turn", defArgs s_is_turn, defBody s_is_turn, defScope s_is_turn, [], []⟩
abbrev s_need_order : Stmt := top 29
def d_need_order : He.DefD := ⟨("need_order", none), "need_order", "need_order", defArgs s_need_order, defBody s_need_order, defScope s_need_order, [], []⟩
abbrev s_Sieve___init__ : Stmt := inClass (top 36) 0
def d_Sieve___init__ : He.DefD := ⟨("Sieve", some "__init__"), "__init__", "Sieve.__init__", defArgs s_Sieve___init__, defBody s_Sieve___init__, defScope s_Sieve___init__, [], []⟩
abbrev s_BadText___init__ : Stmt := inClass (top 17) 0
def d_BadText___init__ : He.DefD := ⟨("BadText", some "__init__"), "__init__", "BadText.__init__", defArgs s_BadText___init__, defBody s_BadText___init__, defScope s_BadText___init__, [], []⟩
abbrev s_BadRuns___init__ : Stmt := inClass (top 6) 0
def d_BadRuns___init__ : He.DefD := ⟨("BadRuns", some "__init__"), "__init__", "BadRuns.__init__", defArgs s_BadRuns___init__, defBody s_BadRuns___init__, defScope s_BadRuns___init__, [], []⟩
abbrev s_BadRows___init__ : Stmt := inClass (top 5) 0
def d_BadRows___init__ : He.DefD := ⟨("BadRows", some "__init__"), "__init__", "BadRows.__init__", defArgs s_BadRows___init__, defBody s_BadRows___init__, defScope s_BadRows___init__, [], []⟩
abbrev s_is_value : Stmt := top 30
def d_is_value : He.DefD := ⟨("is_value", none), "is_value", "is_value", defArgs s_is_value, defBody s_is_value, defScope s_is_value, [], []⟩
abbrev s_is_row : Stmt := top 31
def d_is_row : He.DefD := ⟨("is_row", none), "is_row", "is_row", defArgs s_is_row, defBody s_is_row, defScope s_is_row, [], []⟩
abbrev s_need_rowsX : Stmt := top 32
def d_need_rowsX : He.DefD := ⟨("need_rows", none), "need_rows", "need_rows", defArgs s_need_rowsX, defBody s_need_rowsX, defScope s_need_rowsX, [], []⟩
abbrev s_Sieve_putX : Stmt := inClass (top 36) 1
def d_Sieve_putX : He.DefD := ⟨("Sieve", some "put"), "put", "Sieve.put", defArgs s_Sieve_putX, defBody s_Sieve_putX, defScope s_Sieve_putX, [], []⟩
abbrev s_law_deed : Stmt := top 52
def d_law_deed : He.DefD := ⟨("_law_deed", none), "_law_deed", "_law_deed", defArgs s_law_deed, defBody s_law_deed, defScope s_law_deed, [], []⟩
abbrev s_Sieve_remains : Stmt := inClass (top 36) 3
def d_Sieve_remains : He.DefD := ⟨("Sieve", some "remains"), "remains", "Sieve.remains", defArgs s_Sieve_remains, defBody s_Sieve_remains, defScope s_Sieve_remains, [], []⟩
abbrev s_law : Stmt := top 53
def d_law : He.DefD := ⟨("law", none), "law", "law", defArgs s_law, defBody s_law, defScope s_law, [], []⟩
def fn : List He.DefD := [d_law_begun, d_law_take, d_law_kinds, d_law_order, d_law_value, d_law_rows, d_law_alike, d_law_ahead, d_law_sorted, d_law_bad_row, d_law_class, d_law_told, d_law_all, d_Room_swap, d_is_before, d_Room_is_less, d_Room_lesser, d_Room_take, d_Room_many_in, d_Sieve_takeX, d_Room_put, d_Room___init__, d_need_kinds, d_is_turn, d_need_order, d_Sieve___init__, d_BadText___init__, d_BadRuns___init__, d_BadRows___init__, d_is_value, d_is_row, d_need_rowsX, d_Sieve_putX, d_law_deed, d_Sieve_remains, d_law]
def fa : List He.Fa := [.free "list",
  .free "len",
  .free "int",
  .glo "_law_take",
  .free "range",
  .free "tuple",
  .glo "_law_value",
  .free "min",
  .free "max",
  .free "isinstance",
  .free "bool",
  .free "str",
  .glo "_law_alike",
  .glo "_law_ahead",
  .glo "_law_class",
  .glo "BadKinds",
  .glo "BadOrder",
  .glo "BadRows",
  .glo "BadRuns",
  .glo "BadRoom",
  .glo "BadLengths",
  .glo "BadPlan",
  .glo "BadPaper",
  .glo "BadCount",
  .glo "BadBlock",
  .glo "Stopped",
  .glo "Shut",
  .glo "NotYet",
  .glo "Empty",
  .glo "BadText",
  .free "ValueError",
  .glo "SortError",
  .glo "_law_told",
  .glo "_law_all",
  .str "UP" "up",
  .glo "is_before",
  .meth "Room" "is_less",
  .cls "Room",
  .meth "Room" "swap",
  .meth "Room" "lesser",
  .meth "Room" "many_in",
  .exc "Empty",
  .meth "Room" "take",
  .int "MOST_COLUMNS" 4,
  .str "NUMBER" "number",
  .str "WORD" "word",
  .str "DOWN" "down",
  .glo "is_turn",
  .free "set",
  .glo "need_kinds",
  .glo "need_order",
  .mkr "Room",
  .glo "Room",
  .int "MOST_LETTERS" 6,
  .str "LETTERS" "abcdefghijklmnopqrstuvwxyz",
  .int "MOST_NUMBER" 999,
  .glo "is_value",
  .free "enumerate",
  .glo "is_row",
  .glo "need_rows",
  .meth "Room" "put",
  .glo "_law_sorted",
  .meth "Sieve" "put",
  .cls "Sieve",
  .glo "_law_bad_row",
  .meth "Sieve" "take",
  .glo "_law_begun",
  .glo "_law_kinds",
  .glo "_law_order",
  .mkr "Sieve",
  .glo "Sieve",
  .glo "_law_rows",
  .glo "_law_deed",
  .meth "Sieve" "remains",
  .glo "law",
  .noat "Room" "order",
  .noat "Room" "cells",
  .noat "Sieve" "kinds",
  .noat "Sieve" "room",
  .noat "Sieve" "many"]
def tf : List He.Defn := [("_law_deed", none)]
def fe : List Str := ["BadRows", "Empty"]
def fm : List (Str × Str) := [("BadText", "place"), ("BadRuns", "number"), ("BadRows", "place")]
def fr : Hx.Fs := fm.map (fun p K => Rs.emB p.1 p.2 K) ++ fa.map fun f K => f.ok K
def fs : Hx.Fs := (fun K => decide ((tf.map fun p => (He.cT K p).2).Nodup)) :: (fe.map (fun x K => Rs.errB x K) ++ fr)
/-! ### the head -/
def loose : List PySem.Str := (["_wall", "__name__", "SortError", "BadKinds", "BadOrder", "BadRows", "BadRuns", "BadRoom", "BadLengths", "BadPlan", "BadPaper", "BadCount", "BadBlock", "Stopped", "Shut", "NotYet", "Empty", "BadText", "NUMBER", "WORD", "MOST_COLUMNS", "MOST_NUMBER", "MOST_LETTERS", "LETTERS", "UP", "DOWN", "need_kinds", "is_turn", "need_order", "is_value"] : List PySem.Str) ++ (["is_row", "need_rows", "is_before", "Room", "Sieve", "_law_begun", "_law_take", "_law_alike", "_law_class", "_law_told", "_law_all", "_law_kinds", "_law_order", "_law_value", "_law_rows", "_law_ahead", "_law_sorted", "_law_pairs", "_law_bad_row", "_law_deed"] : List PySem.Str)
abbrev R : PySem.W.OpenRow := PySem.W.OpenLaw.row PySem.Challenge.rw_runsorts_k01_sieves
abbrev hk : PySem.W.Hook := Hx.hookMT fs fn tf
def ob (s : PySem.W.SharedT) : He.AlD × Bool := Hx.obsMT fs fn tf (HandSHeadRun.getT s)
theorem ob_eq (s : PySem.W.SharedT) : ob s = hk.obs s.abs := Hx.obsMT_eq (HandSHeadRun.getT_eq s)
theorem run (w : World) : HandSHeadRun.RunEq R (PySem.W.view R.prog [53]) hk ob 15000 loose w := by
  intro os
  kernel_rfl
end Lw
namespace Rs
open PySem PySem.Spec PyProof.Rows L2

abbrev xAdd : R2 := rI0 fun i j => .int (i + j)
abbrev xSub : R2 := rI0 fun i j => .int (i - j)
abbrev xMul : R2 := rI CMul fun i j => .int (i * j)
abbrev xDiv : R2 := rI CDivW fun i j => .int (i / j)
abbrev xMod : R2 := rI (fun _ j => 0 < j) fun i j => .int (i % j)
abbrev xPow : R2 := rI CPow fun i j => .int (i ^ j.toNat)
abbrev xAddS : R2 := fun x y H Q => ∃ i j, x = .str i ∧ y = .str j ∧ i.length + j.length ≤ sizeLine ∧ Q (.str (i ++ j)) H
abbrev xLt : R2 := rI0 fun i j => .bl (decide (i < j))
abbrev xLe : R2 := rI0 fun i j => .bl (decide (i ≤ j))
abbrev xGt : R2 := rI0 fun i j => .bl (decide (j < i))
abbrev xGe : R2 := rI0 fun i j => .bl (decide (j ≤ i))
abbrev xLtS : R2 := fun x y H Q => ∃ i j, x = .str i ∧ y = .str j ∧ Q (.bl (decide (i.cps.toList < j.cps.toList))) H
abbrev xGtS : R2 := fun x y H Q => ∃ i j, x = .str i ∧ y = .str j ∧ Q (.bl (decide (j.cps.toList < i.cps.toList))) H
def xLtV : R2 := fun x y H Q => xLt x y H Q ∨ xLtS x y H Q
def xGtV : R2 := fun x y H Q => xGt x y H Q ∨ xGtS x y H Q
abbrev xLen (K : PySem.W.Frag) : List V → Hp → VK → Prop := fun xs H Q => ∃ p ys, xs = [.ref p] ∧ (SqL K H p ys ∨ SqT K H p ys) ∧ Q (.int ys.length) H
abbrev xLenS : List V → Hp → VK → Prop := fun xs H Q => ∃ z, xs = [.str z] ∧ z.length ≤ sizeLine ∧ Q (.int z.length) H
abbrev xInt : List V → Hp → VK → Prop := fun xs H Q => (∃ i, xs = [.int i] ∧ Q (.int i) H) ∨ ∃ k, xs = [.bl k] ∧ Q (.int (if k then 1 else 0)) H
abbrev xList (K : PySem.W.Frag) : List V → Hp → VK → Prop := fun xs H Q => ∃ p ys, xs = [.ref p] ∧ (SqL K H p ys ∨ SqT K H p ys) ∧ ∀ l, H l = none → Q (.ref l) (upd H l (.lst ys))
abbrev xTuple (K : PySem.W.Frag) : List V → Hp → VK → Prop := fun xs H Q => ∃ p ys, xs = [.ref p] ∧ ((SqL K H p ys ∧ ∀ l, H l = none → Q (.ref l) (upd H l (.tup ys))) ∨ (SqT K H p ys ∧ Q (.ref p) H))
abbrev xMax2 : List V → Hp → VK → Prop := fun xs H Q => ∃ i j, xs = [.int i, .int j] ∧ Q (.int (if j > i then j else i)) H
abbrev xMin2 : List V → Hp → VK → Prop := fun xs H Q => ∃ i j, xs = [.int i, .int j] ∧ Q (.int (if j < i then j else i)) H
abbrev xInsert : V → List V → Hp → VK → Prop := fun x vs H Q => ∃ (l : Addr) (xs : List V) (i : Int) (y : V), x = .ref l ∧ vs = [.int i, y] ∧ H l = some (.lst xs) ∧ xs.length < sizeLine ∧ 0 ≤ i ∧ i < 2 ^ 63 ∧ Q .non (upd H l (.lst (xs.take i.toNat ++ [y] ++ xs.drop i.toNat)))
abbrev xJoin (K : PySem.W.Frag) : V → List V → Hp → VK → Prop := fun x xs H Q => ∃ a p, ∃ ys : List Str, x = .str a ∧ xs = [.ref p] ∧ (SqL K H p (ys.map V.str) ∨ SqT K H p (ys.map V.str)) ∧ (ys.map (·.length)).sum + ys.length * a.length ≤ 16777216 ∧ Q (.str (Txt.join a ys)) H
abbrev rSlTA (K : PySem.W.Frag) : V → Option Int → Option Int → Hp → VK → Prop := rSlA K
def xEqE (K : PySem.W.Frag) : R2 := fun x y H Q => ∃ a b xs ys, x = .ref a ∧ y = .ref b ∧ SqL K H a xs ∧ SqL K H b ys ∧ (xs = [] ∨ ys = []) ∧ Q (.bl (decide (xs.length = ys.length))) H
def xNeE (K : PySem.W.Frag) : R2 := fun x y H Q => ∃ a b xs ys, x = .ref a ∧ y = .ref b ∧ SqL K H a xs ∧ SqL K H b ys ∧ (xs = [] ∨ ys = []) ∧ Q (.bl (!decide (xs.length = ys.length))) H
section
variable {X : Cx}
theorem opx_ltV : OpR X (compareOp .Lt) xLtV := OpR.or op_lt op_lt_str
theorem opx_gtV : OpR X (compareOp .Gt) xGtV := OpR.or op_gt op_gt_str
end
def tOpC (r : R2) (ta : TE) (v : V) : TE := fun σ H Q => ta σ H fun x H1 => r x v H1 Q
def tOpD (r : R2) (v : V) (tb : TE) : TE := fun σ H Q => tb σ H fun y H1 => r v y H1 Q
def tConsC (v : V) (tr : TA) : TA := fun σ H Q => tr σ H fun xs H1 => Q (v :: xs) H1
def gSubC (to : TE) (i : V) (t : TSet) : TG := fun v σ H Q => to σ H fun o H1 => t o i v H1 fun H3 => Q σ H3
section
variable {X : Cx} {a b e : Expr} {es : List Expr} {r : R2} {ta tb : TE} {t : TA} {v : V} {pos : Pos}
theorem pe_opC {op : Operator} (ho : OpR X (binaryOp op) r) (ha : PE X a ta) (hb : PE X b (tC v)) : PE X (.BinOp a op b pos) (tOpC r ta v) := pe_op ho ha hb
theorem pe_opD {op : Operator} (ho : OpR X (binaryOp op) r) (ha : PE X a (tC v)) (hb : PE X b tb) : PE X (.BinOp a op b pos) (tOpD r v tb) := pe_op ho ha hb
theorem pe_cmpRC {op : CmpOp} (ho : OpR X (compareOp op) r) (ha : PE X a ta) (hb : PE X b (tC v)) (hm : behindInMarks op b = false) : PE X (.Compare a [op] [b] pos) (tOpC r ta v) := pe_cmpR ho ha hb hm
theorem pt_cmpRC {op : CmpOp} (ho : OpR X (compareOp op) r) (ha : PE X a ta) (hb : PE X b (tC v)) (hm : behindInMarks op b = false) : PT X (.Compare a [op] [b] pos) (tTest (tOpC r ta v)) := pt_cmpR ho ha hb hm
theorem pe_ixC (hr : IxR X r) (ha : PE X a ta) (hb : PE X b (tC v)) (hs : PlainIx b) : PE X (.Subscript a b pos) (tOpC r ta v) := pe_ix hr ha hb hs
theorem pa_consC (he : PE X e (tC v)) (hr : PA X es t) (h : starEach (e :: es) X.env = (false, eval e X.env) :: starEach es X.env := by rfl) : PA X (e :: es) (tConsC v t) := pa_cons he hr h
theorem pe_unN {i : Int} (ha : PE X a (tC (.int i))) : PE X (.UnaryOp .USub a pos) (tC (.int (-i))) := by
  refine ⟨fun pins s σ H Q I h => (pe_un un_neg ha).run pins s σ H Q I ?_⟩
  exact ⟨i, rfl, h⟩
theorem pg_subC {t : TSet} (ho : PE X a ta) (hi : PE X b (tC v)) (hs : PSet X t) (ha : ∀ v, assign (.Subscript a b pos) X.env v = (do
      let ov ← holding [v] (eval a X.env)
      let iv ← holding [v, ov] (eval b X.env)
      standAt pos
      holding [v, ov, iv] (setItem ov iv v)
      release [v, ov, iv] []) := by intro _; rfl) : PG X (.Subscript a b pos) (gSubC ta v t) := pg_sub ho hi hs ha
end
section
variable {X : Cx}
theorem two_lists {pins : List (Addr × Obj)} {σ : L2.St} {H : Hp} {s : Shared} {a b : Addr} {xs ys : List V} (I : Inv X pins σ H s) (h1 : SqL X.K H a xs) (h2 : SqL X.K H b ys) :
    ∃ i1 i2 : List Value, s.heap.IsList a i1.toArray ∧ s.heap.IsList b i2.toArray ∧ xs.length = i1.length ∧ ys.length = i2.length := by
  obtain ⟨i1, r1, ⟨o, n, ho, hc, _, hd⟩, _⟩ := I.list h1
  obtain ⟨i2, r2, ⟨o2, n2, ho2, hc2, _, hd2⟩, _⟩ := I.list h2
  exact ⟨i1, i2, ⟨o, ho, hc, n, hd⟩, ⟨o2, ho2, hc2, n2, hd2⟩, r1.length, r2.length⟩
theorem opx_eqE (hu : X.A.units + 1 < cLine) : OpR X (compareOp .Eq) (xEqE X.K) := by
  intro pins s σ H x y v u Q I rx ry h
  obtain ⟨a, b, xs, ys, rfl, rfl, h1, h2, he, q⟩ := h
  cases rx
  cases ry
  obtain ⟨i1, i2, p1, p2, l1, l2⟩ := two_lists I h1 h2
  show wpAny (model X.prog X.w) X.A (richCompare .Eq (.ref a) (.ref b)) _ _ s
  by_cases e : xs.length = ys.length
  · rw [decide_eq_true e] at q
    have z : i1 = [] ∧ i2 = [] := by
      constructor <;> apply List.eq_nil_of_length_eq_zero <;> rcases he with he | he <;> subst he <;> simp at e l1 l2 <;> simp_all
    obtain ⟨z1, z2⟩ := z
    subst z1
    subst z2
    exact SeqAt.RcAt.lists (e := fun _ => true) p1 p2 rfl (by omega) (fun j h _ => absurd h (by simp)) _ _ _ _ ⟨.bl true, H, I, rfl, q⟩
  · rw [decide_eq_false e] at q
    exact SeqAt.RcAt.lists_lengths p1 p2 (by rw [List.size_toArray, List.size_toArray, ← l1, ← l2]; simpa using e) (by omega) _ _ _ _ ⟨.bl false, H, I, rfl, q⟩
theorem opx_neE (hu : X.A.units + 1 < cLine) : OpR X (compareOp .NotEq) (xNeE X.K) := by
  intro pins s σ H x y v u Q I rx ry h
  obtain ⟨a, b, xs, ys, rfl, rfl, h1, h2, he, q⟩ := h
  cases rx
  cases ry
  obtain ⟨i1, i2, p1, p2, l1, l2⟩ := two_lists I h1 h2
  show wpAny (model X.prog X.w) X.A (richCompare .NotEq (.ref a) (.ref b)) _ _ s
  by_cases e : xs.length = ys.length
  · rw [decide_eq_true e] at q
    have z : i1 = [] ∧ i2 = [] := by
      constructor <;> apply List.eq_nil_of_length_eq_zero <;> rcases he with he | he <;> subst he <;> simp at e l1 l2 <;> simp_all
    obtain ⟨z1, z2⟩ := z
    subst z1
    subst z2
    exact SeqAt.RcNeAt.lists (e := fun _ => true) p1 p2 rfl (by omega) (fun j h _ => absurd h (by simp)) _ _ _ _ ⟨.bl false, H, I, rfl, q⟩
  · rw [decide_eq_false e] at q
    exact SeqAt.RcNeAt.lists_lengths p1 p2 (by rw [List.size_toArray, List.size_toArray, ← l1, ← l2]; simpa using e) (by omega) _ _ _ _ ⟨.bl true, H, I, rfl, q⟩
end

section
variable {X : Cx} {x : Str} {pos : Pos}
theorem pe_gint {i : Int} (hg : Gl X x) (hm : ∃ t, X.mg x = some (.int i t)) (hd : (x == ("__debug__" : Str)) = false := by decide) : PE X (.Name x pos) (tC (.int i)) := by
  obtain ⟨t, e⟩ := hm
  exact pe_glob hg e ⟨t, rfl⟩ hd
theorem pe_gstr {z : Str} (hg : Gl X x) (hm : ∃ t, X.mg x = some (.str z t)) (hd : (x == ("__debug__" : Str)) = false := by decide) : PE X (.Name x pos) (tC (.str z)) := by
  obtain ⟨t, e⟩ := hm
  exact pe_glob hg e ⟨t, rfl⟩ hd
def tIsi (K : PySem.W.Frag) (c : String) (ta : TE) : TE := fun σ H Q => ta σ H fun x H1 => rIsi K [x, .ty c] H1 Q
theorem pe_isi {a b : Expr} {c : String} {ta : TE} {p pos : Pos} (hg : Gl X "isinstance") (hm : X.mg "isinstance" = none) (ha : PE X a ta) (hb : PE X b (tC (.ty c)))
    (e1 : starEach [a, b] X.env = (false, eval a X.env) :: starEach [b] X.env := by rfl) (e3 : starEach [b] X.env = (false, eval b X.env) :: starEach [] X.env := by rfl) (e2 : (backTo pos (starEach [b] X.env)).any (·.1) = false := by rfl) :
    PE X (.Call (.Name "isinstance" p) [a, b] [] pos) (tIsi X.K c ta) := pe_callB call_isi hg hm (by decide +kernel) (pa_cons ha (pa_cons hb pa_nil e3) e1) (by decide) (by decide) e1 e2
def tCB1 (r : List V → Hp → VK → Prop) (ta : TE) : TE := fun σ H Q => ta σ H fun x H1 => r [x] H1 Q
theorem pe_callB1 {a : Expr} {ta : TE} {r : List V → Hp → VK → Prop} {id : String} {p : Pos} (hc : CallR X (.builtin id) r) (hg : Gl X x) (hm : X.mg x = none) (hv : bootBuiltins x = some (.builtin id)) (ha : PE X a ta) (hn : x ≠ "__name__" := by decide) (hd : (x == ("__debug__" : Str)) = false := by decide)
    (e1 : starEach [a] X.env = (false, eval a X.env) :: starEach [] X.env := by rfl) : PE X (.Call (.Name x p) [a] [] pos) (tCB1 r ta) := pe_callB hc hg hm hv (pa_cons ha pa_nil e1) hn hd e1 rfl
theorem pe_callTy1 {a : Expr} {ta : TE} {r : List V → Hp → VK → Prop} {T : String} {p : Pos} (hc : CallR X (.type T) r) (hg : Gl X x) (hm : X.mg x = none) (hv : bootBuiltins x = some (.type T)) (ha : PE X a ta) (hn : x ≠ "__name__" := by decide) (hd : (x == ("__debug__" : Str)) = false := by decide)
    (e1 : starEach [a] X.env = (false, eval a X.env) :: starEach [] X.env := by rfl) : PE X (.Call (.Name x p) [a] [] pos) (tCB1 r ta) := pe_callTy hc hg hm hv (pa_cons ha pa_nil e1) hn hd e1 rfl
theorem isi_go {K : PySem.W.Frag} {c t : String} {x : V} {H : Hp} {Q : VK} {b : Bool} (ty : TyX K H x (.type t)) (h : kitB t c = some b) (q : Q (.bl b) H) : rIsi K [x, .ty c] H Q :=
  ⟨x, .ty c, _, _, b, rfl, .ty c, ty, kit_ty h, q⟩
end

section
variable {X : Cx}
def dcount (ns : List Int) : Nat := (PyProof.Rows.firstMet (fun i => ns.getD i 0) ns.length).length
theorem dcount_nodup {ns : List Int} (h : ns.Nodup) : dcount ns = ns.length := by
  unfold dcount
  rw [RZ.firstMet_nodup h ns.length (Nat.le_refl _), List.take_length]
def tLenSetX (K : PySem.W.Frag) (ta : TE) : TE := fun σ H Q => ta σ H fun x H1 => ∃ (l : Addr) (ns : List Int), x = .ref l ∧ SqL K H1 l (ns.map V.int) ∧ ns.length ≤ 4000 ∧ Q (.int (dcount ns : Nat)) H1
theorem pe_lenSetX {a : Expr} {ta : TE} {p p2 q pos : Pos} (hg : Gl X "len") (hm : X.mg "len" = none) (hg2 : Gl X "set") (hm2 : X.mg "set" = none) (ha : PE X a ta) (hc : X.calm = true := by rfl)
    (na : starEach [a] X.env = (false, eval a X.env) :: starEach [] X.env := by rfl) : PE X (.Call (.Name "len" p) [.Call (.Name "set" p2) [a] [] q] [] pos) (tLenSetX X.K ta) := by
  refine ⟨fun pins s σ H Q I h => ?_⟩
  refine Call_ (ld_blt I hg hm boot_len ?_)
  refine PyProof.Rows.callWith_builtin1 (PyProof.Rows.args_cons ?_ rfl) rfl rfl
  refine Call_ (ld_blt I hg2 hm2 PyProof.Rows.boot_set ?_)
  refine PyProof.Rows.callWith_type1 (PyProof.Rows.args_cons (thn (ha.run pins s σ H _ I h) fun v s1 ⟨x, H1, I1, r1, q1⟩ => PyProof.Rows.args_nil ?_) na) na rfl
  obtain ⟨l, ns, rfl, hq, hl, q1⟩ := q1
  cases r1
  obtain ⟨its, r, pl, hz⟩ := I1.list hq
  have hlen : its.toArray.size = ns.length := by rw [List.size_toArray, ← r.length, List.length_map]
  refine call_set_list (I1.ok.hd hc) pl.isList (by simpa using RZ.intsAre_vals r) (by rw [hlen]; unfold scanBound; omega) fun h' tk hS hk => ?_
  refine PyProof.Rows.args_nil ?_
  rw [hlen] at hS
  obtain ⟨o, es, ep, t, ho, hex, hd, _, _, _, hf, hn⟩ := hS
  have I2 : Inv X pins σ H1 { s1 with heap := h', toks := tk } := I1.kept fun b o e => hk b o (Heap.lt_size e) e
  have hle : dcount ns ≤ ns.length := PyProof.Rows.firstMet_length_le _ _
  have hn' : es.size = dcount ns := hn
  exact call_len_set ho hex hd hf (by rw [hn'] <;> omega) ⟨.int (dcount ns : Nat), H1, I2.tok _, ⟨_, by rw [hn'] <;> rfl⟩, q1⟩
end

def rFld (K : PySem.W.Frag) (f : Str) (x : V) (H1 : Hp) (Q : VK) : Prop := ∃ a C dx fs v, x = .ref a ∧ H1 a = some (.ins C dx fs) ∧ Cls K C ∧ NoAttr K C f ∧ fs.lookup f = some v ∧ Q v H1
def tFl (K : PySem.W.Frag) (ta : TE) (f : Str) : TE := fun σ H Q => ta σ H fun x H1 => rFld K f x H1 Q
theorem pe_fl {X : Cx} {o : Expr} {ta : TE} {f : Str} {pos : Pos} (he : PE X o ta) (hb : attributeBase o f X.env (eval o X.env) = eval o X.env) : PE X (.Attribute o f pos) (tFl X.K ta f) := pe_fld he hb
def rSFl (K : PySem.W.Frag) (f : Str) (x y : V) (D : Ends) (σ : L2.St) (H2 : Hp) : Prop := ∃ a C dx fs, x = .ref a ∧ H2 a = some (.ins C dx fs) ∧ Cls K C ∧ NoAttr K C f ∧ fs.length < 1000 ∧ D.nx σ (upd H2 a (.ins C dx (putF f y fs)))
def sFl (K : PySem.W.Frag) (ta tv : TE) (f : Str) : TS := fun D σ H => tv σ H fun y H1 => ta σ H1 fun x H2 => rSFl K f x y D σ H2
theorem ps_fl {X : Cx} {o e : Expr} {ta tv : TE} {f : Str} {p pos : Pos} (he : PE X o ta) (hv : PE X e tv) (hb : swapsWith e (some (.Attribute o f p)) pos.line X.env = pure false) : PS X (.Assign [.Attribute o f p] e pos) (sFl X.K ta tv f) := ps_fld he hv hb
theorem lk_hd {a : Str} {x : V} {r : List (Str × V)} : ((a, x) :: r).lookup a = some x := by simp [List.lookup]
theorem lk_tl {a b : Str} {x : V} {r : List (Str × V)} (h : ¬ b = a) : ((a, x) :: r).lookup b = r.lookup b := by
  have e : (b == a) = false := by simpa using h
  simp [List.lookup, e]
theorem lk_nil {b : Str} : ([] : List (Str × V)).lookup b = none := rfl
theorem put_nil {a : Str} {v : V} : putF a v [] = [(a, v)] := rfl
theorem put_hd {a : Str} {x v : V} {r : List (Str × V)} : putF a v ((a, x) :: r) = (a, v) :: r := by
  show (if a = a then _ else _) = _
  rw [if_pos rfl]
theorem put_tl {a b : Str} {x v : V} {r : List (Str × V)} (h : ¬ a = b) : putF b v ((a, x) :: r) = (a, x) :: putF b v r := by
  show (if a = b then _ else _) = _
  rw [if_neg h]

def Can (P : Program) (w : World) (K : PySem.W.Frag) (mg : Str → Option Value) (base : Heap) (k : Nat) (at_ : Str × Option Str) (ps : List Str) (sp : Sp) : Prop :=
  ∃ fd, FnOk P w K mg base (L2.CX P w) k (He.fAd K at_) fd ps sp ∧ Binds K fd ps [] ∧ PySem.W.keepIn K (.ref (He.fAd K at_)) = true
section
variable {P : Program} {w : World} {K : PySem.W.Frag} {mg : Str → Option Value} {base : Heap} {k : Nat} {at_ : Str × Option Str} {ps : List Str} {sp sp' : Sp}
theorem Can.mono {j : Nat} (F : Can P w K mg base j at_ ps sp) (h : j ≤ k) : Can P w K mg base k at_ ps sp := by
  obtain ⟨fd, F, b, kp⟩ := F
  exact ⟨fd, F.mono h, b, kp⟩
def TupLe (H H' : Hp) : Prop := ∀ a xs, H a = some (.tup xs) → H' a = some (.tup xs)
theorem TupLe.refl (H : Hp) : TupLe H H := fun _ _ h => h
theorem TupLe.trans {H H1 H2 : Hp} (a : TupLe H H1) (b : TupLe H1 H2) : TupLe H H2 := fun x o h => b x o (a x o h)
theorem TupLe.same {H H' : Hp} (a : Same H H') : TupLe H H' := fun x o h => a x _ h
theorem TupLe.put {H H' : Hp} {p : Addr} {o : HO} (a : TupLe H H') (h : ∀ xs, H' p ≠ some (.tup xs)) : TupLe H (upd H' p o) := fun x xs e => by
  have e2 := a x xs e
  rw [upd_ne (fun z => by rw [z] at e2; exact h xs e2)]
  exact e2
end
section
variable {X : Cx} {k : Nat} {x C m : Str} {ps : List Str} {sp : Sp} {E : XK} {p pos apos : Pos} {e o : Expr} {es : List Expr} {ta : TE} {t : TA} {M : Option Str}
theorem pe_callC (F : Can X.prog X.w X.K X.mg X.base k (x, none) ps sp) (hr : Room k X.A) (hg : Gl X x) (hm : X.mg x = some (.ref (He.ga X.K x))) (hx : Passes (L2.CX X.prog X.w) X E)
    (ha : PA X (e :: es) t) (hdb : (x == ("__debug__" : Str)) = false := by decide) (he : starEach (e :: es) X.env = (false, eval e X.env) :: starEach es X.env := by rfl) (hpl : (backTo pos (starEach es X.env)).any (·.1) = false := by rfl) :
    PE X (.Call (.Name x p) (e :: es) [] pos) (tCall sp [] E t) := by
  obtain ⟨fd, F, b, kp⟩ := F
  exact pe_call F hr hg hm kp b .nil hx ha hdb he hpl
theorem pe_methC {pl : Sem Bool} (he : PE X o ta) (c : Cls X.K (He.ga X.K C)) (hm : Meth X.K (He.ga X.K C) m (He.ma X.K (He.ga X.K C) m)) (F : Can X.prog X.w X.K X.mg X.base k (C, some m) ps sp) (hr : Room k X.A) (hx : Passes (L2.CX X.prog X.w) X E) (ha : PA X (e :: es) t)
    (hst : starEach (e :: es) X.env = (false, eval e X.env) :: starEach es X.env := by rfl) (hpl : (backTo pos (starEach es X.env)).any (·.1) = false := by rfl)
    (ht : eval (.Call (.Attribute o m apos) (e :: es) [] pos) X.env = (do
      let ov ← eval o X.env
      standAt apos.atName
      let (f, first) ← holding [ov] (getMethod ov m pl)
      callWith pos f first (backTo pos (starEach (e :: es) X.env)) (backToKw pos (keywordEach [] X.env))) := by rfl) :
    PE X (.Call (.Attribute o m apos) (e :: es) [] pos) (tMeth (He.ga X.K C) m sp [] E ta t) := by
  obtain ⟨fd, F, b, kp⟩ := F
  exact pe_meth he c hm F hr b .nil hx ha hst hpl ht
theorem pe_methC0 {pl : Sem Bool} (he : PE X o ta) (c : Cls X.K (He.ga X.K C)) (hm : Meth X.K (He.ga X.K C) m (He.ma X.K (He.ga X.K C) m)) (F : Can X.prog X.w X.K X.mg X.base k (C, some m) ps sp) (hr : Room k X.A) (hx : Passes (L2.CX X.prog X.w) X E)
    (ht : eval (.Call (.Attribute o m apos) [] [] pos) X.env = (do
      let ov ← eval o X.env
      standAt apos.atName
      let (f, first) ← holding [ov] (getMethod ov m pl)
      callWith pos f first (backTo pos (starEach [] X.env)) (backToKw pos (keywordEach [] X.env))) := by rfl) :
    PE X (.Call (.Attribute o m apos) [] [] pos) (tMeth (He.ga X.K C) m sp [] E ta tNil) := by
  obtain ⟨fd, F, b, kp⟩ := F
  exact pe_meth0 he c hm F hr b .nil hx ht
theorem pe_makeC (M : Mk X.K (He.ga X.K C) (He.ma X.K (He.ga X.K C) "__init__")) (F : Can X.prog X.w X.K X.mg X.base k (C, some "__init__") ps sp) (hr : Room (k + 1) X.A) (hg : Gl X C) (hm : X.mg C = some (.ref (He.ga X.K C))) (hx : Passes (L2.CX X.prog X.w) X E)
    (ha : PA X (e :: es) t) (hdb : (C == ("__debug__" : Str)) = false := by decide) (he : starEach (e :: es) X.env = (false, eval e X.env) :: starEach es X.env := by rfl) (hpl : (backTo pos (starEach es X.env)).any (·.1) = false := by rfl) :
    PE X (.Call (.Name C p) (e :: es) [] pos) (tMake (He.ga X.K C) sp [] E t) := by
  obtain ⟨fd, F, b, kp⟩ := F
  exact pe_make M F hr hg hm b .nil hx ha hdb he hpl
end
theorem can_of {P : Program} {w : World} {K : PySem.W.Frag} {mg : Str → Option Value} {base : Heap} {k : Nat} {x qual : Str} {at_ : Str × Option Str} {params : Arguments} {body : List Stmt} {scope : Scope} {N ps : List Str} {sp : Sp} {fd : FuncData}
    (F : FunD K x qual params body scope [] [] (He.fAd K at_) fd) (b : Binds K fd ps []) (S : FnScope N ps scope) (len : ∀ vs H Q E, sp vs H Q E → vs.length = ps.length)
    (t : XK → TS) (h : ∀ (cdv : Value) (A : Around) (outer : List Env) (s : Shared) (H : Hp) (E : XK), Room k (A.deeper (envOfC qual scope s.heap.objs.size (He.fAd K at_) cdv)) →
      PSs (cxOf (L2.CX P w) P w K mg base N qual scope (He.fAd K at_) cdv A outer s H E) body (t E))
    (pure_ : ∀ vs H Q E, sp vs H Q E → t E { nx := fun _ H' => Q .non H', rt := Q } (start N vs) H) : Can P w K mg base (k + 1) at_ ps sp :=
  ⟨fd, F.ok S len fun cdv A outer s H vs Q E hr hsp => ⟨t E, h cdv A outer s H E hr, pure_ vs H Q E hsp⟩, b, F.kp⟩

theorem can_false {P : Program} {w : World} {K : PySem.W.Frag} {mg : Str → Option Value} {base : Heap} {k : Nat} {x qual : Str} {at_ : Str × Option Str} {params : Arguments} {body : List Stmt} {scope : Scope} {ps : List Str} {sp : Sp} {fd : FuncData}
    (F : FunD K x qual params body scope [] [] (He.fAd K at_) fd) (b : Binds K fd ps []) (h : ∀ vs H Q E, ¬ sp vs H Q E) : Can P w K mg base k at_ ps sp :=
  ⟨fd, ⟨fun vs H Q E q => (h vs H Q E q).elim, fun A outer s H args us vs Q E hr he hb hv hs => (h vs H Q E hs).elim⟩, b, F.kp⟩
theorem can_rec {P : Program} {w : World} {K : PySem.W.Frag} {mg : Str → Option Value} {base : Heap} {lev : Nat} {x qual : Str} {at_ : Str × Option Str} {params : Arguments} {body : List Stmt} {scope : Scope} {N ps : List Str} {sp : Nat → Sp} {fd : FuncData}
    (F : FunD K x qual params body scope [] [] (He.fAd K at_) fd) (b : Binds K fd ps []) (S : FnScope N ps scope) (len : ∀ d vs H Q E, sp d vs H Q E → vs.length = ps.length) (no : ∀ vs H Q E, ¬ sp 0 vs H Q E)
    (t : Sp → XK → TS) (h : ∀ (d : Nat), Can P w K mg base (lev + d) at_ ps (sp d) → ∀ (cdv : Value) (A : Around) (outer : List Env) (s : Shared) (H : Hp) (E : XK), Room (lev + d) (A.deeper (envOfC qual scope s.heap.objs.size (He.fAd K at_) cdv)) →
      PSs (cxOf (L2.CX P w) P w K mg base N qual scope (He.fAd K at_) cdv A outer s H E) body (t (sp d) E))
    (pure_ : ∀ d vs H Q E, sp (d + 1) vs H Q E → t (sp d) E { nx := fun _ H' => Q .non H', rt := Q } (start N vs) H) : ∀ d, Can P w K mg base (lev + d) at_ ps (sp d)
  | 0 => can_false F b no
  | d + 1 => can_of F b S (len (d + 1)) (t (sp d)) (h d (can_rec F b S len no t h pure_ d)) (pure_ d)

end Rs

namespace Rs
open PySem PySem.Spec PyProof.Rows L2
section
variable {α β : Type} {F G : α → β → Prop}
theorem P2.get : ∀ {l : List α} {m : List β}, Paired F l m → ∀ {i : Nat} {a : α}, l[i]? = some a → ∃ b, m[i]? = some b ∧ F a b
  | _, _, .nil, _, _, e => by simp at e
  | _, _, .cons h t, 0, a, e => by simp at e; subst e; exact ⟨_, rfl, h⟩
  | _, _, .cons h t, i + 1, a, e => by simpa using P2.get t (i := i) (by simpa using e)
theorem P2.get' : ∀ {l : List α} {m : List β}, Paired F l m → ∀ {i : Nat} {b : β}, m[i]? = some b → ∃ a, l[i]? = some a ∧ F a b
  | _, _, .nil, _, _, e => by simp at e
  | _, _, .cons h t, 0, a, e => by simp at e; subst e; exact ⟨_, rfl, h⟩
  | _, _, .cons h t, i + 1, a, e => by simpa using P2.get' t (i := i) (by simpa using e)
theorem P2.mono (f : ∀ a b, F a b → G a b) : ∀ {l : List α} {m : List β}, Paired F l m → Paired G l m
  | _, _, .nil => .nil
  | _, _, .cons h t => .cons (f _ _ h) (P2.mono f t)
theorem P2.app : ∀ {l l' : List α} {m m' : List β}, Paired F l m → Paired F l' m' → Paired F (l ++ l') (m ++ m')
  | _, _, _, _, .nil, q => q
  | _, _, _, _, .cons h t, q => .cons h (P2.app t q)
theorem P2.one {a : α} {b : β} (h : F a b) : Paired F [a] [b] := .cons h .nil
theorem P2.take : ∀ (n : Nat) {l : List α} {m : List β}, Paired F l m → Paired F (l.take n) (m.take n)
  | 0, _, _, _ => .nil
  | _ + 1, _, _, .nil => .nil
  | n + 1, _, _, .cons h t => .cons h (P2.take n t)
theorem P2.drop : ∀ (n : Nat) {l : List α} {m : List β}, Paired F l m → Paired F (l.drop n) (m.drop n)
  | 0, _, _, q => q
  | _ + 1, _, _, .nil => .nil
  | n + 1, _, _, .cons h t => P2.drop n t
theorem P2.set {a : α} {b : β} (h : F a b) : ∀ (n : Nat) {l : List α} {m : List β}, Paired F l m → Paired F (l.set n a) (m.set n b)
  | _, _, _, .nil => .nil
  | 0, _, _, .cons _ t => .cons h t
  | n + 1, _, _, .cons q t => .cons q (P2.set h n t)
theorem P2.map {γ : Type} {f : γ → α} {g : γ → β} : ∀ (l : List γ), (∀ x ∈ l, F (f x) (g x)) → Paired F (l.map f) (l.map g)
  | [], _ => .nil
  | x :: l, h => .cons (h x (List.mem_cons_self ..)) (P2.map l fun y hy => h y (List.mem_cons_of_mem _ hy))
theorem P2.last {l : List α} {m : List β} {a : α} {b : β} (h : Paired F (l ++ [a]) (m ++ [b])) : F a b := by
  have e : (l ++ [a]).length = (m ++ [b]).length := h.length
  simp at e
  obtain ⟨b', h1, h2⟩ := P2.get h (i := l.length) (a := a) (by simp)
  rw [e] at h1
  simp at h1
  rw [h1]
  exact h2
end
theorem drop_cons {α : Type} : ∀ {l : List α} {i : Nat} {x : α}, l[i]? = some x → l.drop i = x :: l.drop (i + 1)
  | [], _, _, h => by simp at h
  | a :: l, 0, x, h => by simp at h; subst h; rfl
  | a :: l, i + 1, x, h => by simpa using drop_cons (l := l) (i := i) (by simpa using h)
abbrev Rel (α : Type) := Hp → V → α → Prop
def Stable {α : Type} (R : Rel α) : Prop := ∀ (H H' : Hp) (v : V) (x : α), TupLe H H' → R H v x → R H' v x
def IsTp (H : Hp) (v : V) (xs : List V) : Prop := ∃ a, v = .ref a ∧ H a = some (.tup xs)
theorem IsTp.mono {H H' : Hp} {v : V} {xs : List V} (t : TupLe H H') (h : IsTp H v xs) : IsTp H' v xs := let ⟨a, e, q⟩ := h; ⟨a, e, t a xs q⟩
abbrev Row := List Key
abbrev Pr := Int × Row
abbrev Ord := List (Nat × Bool)
def wayS (b : Bool) : Str := if b = true then "up" else "down"
def RowAt : Rel Row := fun H v r => IsTp H v (r.map kV)
def PairAt : Rel Pr := fun H v p => ∃ w, IsTp H v [.int p.1, w] ∧ RowAt H w p.2
def TurnAt : Rel (Nat × Bool) := fun H v t => IsTp H v [.int (t.1 : Int), .str (wayS t.2)]
def IntAt : Rel Int := fun _ v i => v = .int i
def KeyAt : Rel Key := fun _ v i => v = kV i
theorem RowAt.st : Stable RowAt := fun _ _ _ _ t h => IsTp.mono t h
theorem PairAt.st : Stable PairAt := fun _ _ _ _ t ⟨w, a, b⟩ => ⟨w, a.mono t, b.mono t⟩
theorem TurnAt.st : Stable TurnAt := fun _ _ _ _ t h => IsTp.mono t h
theorem IntAt.st : Stable IntAt := fun _ _ _ _ _ h => h
theorem KeyAt.st : Stable KeyAt := fun _ _ _ _ _ h => h
def Lst {α : Type} (R : Rel α) (H : Hp) (l : Addr) (xs : List α) : Prop := ∃ vs, H l = some (.lst vs) ∧ Paired (R H) vs xs
def LstV {α : Type} (R : Rel α) : Rel (List α) := fun H v xs => ∃ l, v = .ref l ∧ Lst R H l xs
section
variable {α : Type} {R : Rel α} {H H' : Hp} {l : Addr} {xs : List α}
theorem Lst.len (h : Lst R H l xs) : ∃ vs, H l = some (.lst vs) ∧ vs.length = xs.length := let ⟨vs, a, b⟩ := h; ⟨vs, a, b.length⟩
theorem Paired.tl (s : Stable R) (t : TupLe H H') {vs : List V} (h : Paired (R H) vs xs) : Paired (R H') vs xs := P2.mono (fun v x q => s H H' v x t q) h
theorem Lst.keep (s : Stable R) (t : TupLe H H') (h : Lst R H l xs) (e : ∀ o, H l = some o → H' l = some o) : Lst R H' l xs := let ⟨vs, a, b⟩ := h; ⟨vs, e _ a, Paired.tl s t b⟩
theorem Lst.same (s : Stable R) (k : Same H H') (h : Lst R H l xs) : Lst R H' l xs := h.keep s (TupLe.same k) fun o => k l o
theorem LstV.same (s : Stable R) (k : Same H H') {v : V} (h : LstV R H v xs) : LstV R H' v xs := let ⟨l, e, q⟩ := h; ⟨l, e, q.same s k⟩
end
theorem Same.new {H : Hp} {p : Addr} {o : HO} (h : H p = none) : Same H (upd H p o) := fun a u e => by
  rw [upd_ne (ne_of_none e h)]
  exact e
theorem Same.mut {H H' : Hp} {p : Addr} {o : HO} (e : Same H H') (h : H p = none) : Same H (upd H' p o) := fun a u ha => by
  rw [upd_ne (ne_of_none ha h)]
  exact e a u ha
theorem TupLe.new {H : Hp} {p : Addr} {o : HO} (h : H p = none) : TupLe H (upd H p o) := TupLe.same (Same.new h)
theorem TupLe.list {H H' : Hp} {p : Addr} {o : HO} {vs : List V} (a : TupLe H H') (h : H' p = some (.lst vs)) : TupLe H (upd H' p o) := a.put fun xs e => by rw [h] at e; cases e
def But (S : List Addr) (H H' : Hp) : Prop := ∀ b o, H b = some o → b ∉ S → H' b = some o
theorem But.refl (S : List Addr) (H : Hp) : But S H H := fun _ _ h _ => h
theorem But.trans {S : List Addr} {H H1 H2 : Hp} (a : But S H H1) (b : But S H1 H2) : But S H H2 := fun c o h n => b c o (a c o h n) n
theorem But.same {S : List Addr} {H H1 : Hp} (a : Same H H1) : But S H H1 := fun c o h _ => a c o h
theorem But.new {S : List Addr} {H H1 : Hp} {p : Addr} {o : HO} (a : But S H H1) (h : H1 p = none) : But S H (upd H1 p o) := fun c u e n => by
  have e2 := a c u e n
  rw [upd_ne (ne_of_none e2 h)]
  exact e2
theorem But.put {S : List Addr} {H H1 : Hp} {p : Addr} {o : HO} (a : But S H H1) (h : p ∈ S) : But S H (upd H1 p o) := fun c u e n => by
  rw [upd_ne (fun z => n (by rw [z]; exact h))]
  exact a c u e n
end Rs
namespace Rs
open PySem PySem.Spec PyProof.Rows L2
theorem But.mut {S : List Addr} {H H1 : Hp} {p : Addr} {o : HO} (a : But S H H1) (h : H p = none) : But S H (L2.upd H1 p o) := fun c u e n => by
  rw [upd_ne (ne_of_none e h)]
  exact a c u e n
theorem But.wide {S T : List Addr} {H H1 : Hp} (a : But S H H1) (h : ∀ x ∈ S, x ∈ T) : But T H H1 := fun c u e n => a c u e fun z => n (h c z)
theorem But.fresh {S : List Addr} {H H0 H1 : Hp} (a : But S H H1) (s : Same H0 H) (h : ∀ x ∈ S, H0 x = none) : Same H0 H1 := fun c u e => a c u (s c u e) fun z => by
  rw [h c z] at e
  cases e
theorem none_of_but {S : List Addr} {H H1 : Hp} {p : Addr} (a : But S H H1) (h : H1 p = none) (n : p ∉ S) : H p = none := by
  cases q : H p with
  | none => rfl
  | some o =>
    rw [a p o q n] at h
    cases h
theorem ixN_nat {n j : Nat} (h : j < n) : ixN n (j : Int) = some j := by
  unfold ixN
  rw [if_pos (by omega), if_pos (by omega)]
  simp
theorem ixN_zero' {n : Nat} (h : 0 < n) : ixN n 0 = some 0 := ixN_nat (j := 0) h
section
variable {K : PySem.W.Frag} {H : Hp} {Q : VK} {x v : V} {xs : List V} {i : Int} {j : Nat}
theorem ixT (h : IsTp H x xs) (hi : i = (j : Int)) (e : xs[j]? = some v) (q : Q v H) : rIxT K x (.int i) H Q := by
  obtain ⟨a, rfl, h⟩ := h
  exact ⟨a, xs, i, v, rfl, rfl, SqT.of h, at_of hi e, q⟩
theorem ixL {a : Addr} (h : H a = some (.lst xs)) (hi : i = (j : Int)) (e : xs[j]? = some v) (q : Q v H) : rIxL K (.ref a) (.int i) H Q := ⟨a, xs, i, v, rfl, rfl, SqL.of h, at_of hi e, q⟩
theorem ixLast {a : Addr} (h : H a = some (.lst (xs ++ [v]))) (q : Q v H) : rIxL K (.ref a) (.int (-1)) H Q := ⟨a, _, _, v, rfl, rfl, SqL.of h, atI_last _ _, q⟩
theorem lenL {a : Addr} (h : H a = some (.lst xs)) {n : Int} (e : n = (xs.length : Int)) (q : Q (.int n) H) : xLen K [.ref a] H Q := by
  subst e
  exact ⟨a, xs, rfl, .inl (SqL.of h), q⟩
theorem lenT (h : IsTp H x xs) {n : Int} (e : n = (xs.length : Int)) (q : Q (.int n) H) : xLen K [x] H Q := by
  subst e
  obtain ⟨a, rfl, h⟩ := h
  exact ⟨a, xs, rfl, .inr (SqT.of h), q⟩
theorem neE {a p : Addr} (h : H a = some (.lst xs)) (hp : H p = none) {b : Bool} (e : b = !xs.isEmpty) (q : Q (.bl b) (upd H p (.lst []))) : xNeE K (.ref a) (.ref p) (upd H p (.lst [])) Q := by
  subst e
  refine ⟨a, p, xs, [], rfl, rfl, SqL.of (by rw [upd_ne (ne_of_none h hp)]; exact h), SqL.of upd_same, .inr rfl, ?_⟩
  cases xs <;> exact q
theorem eqE {a p : Addr} (h : H a = some (.lst xs)) (hp : H p = none) {b : Bool} (e : b = xs.isEmpty) (q : Q (.bl b) (upd H p (.lst []))) : xEqE K (.ref a) (.ref p) (upd H p (.lst [])) Q := by
  subst e
  refine ⟨a, p, xs, [], rfl, rfl, SqL.of (by rw [upd_ne (ne_of_none h hp)]; exact h), SqL.of upd_same, .inr rfl, ?_⟩
  cases xs <;> exact q
end
theorem lc_yes {σ : L2.St} {H : Hp} {A B : Hp → Prop} (h : A H) : tYes σ H (fun b H3 => if b = true then A H3 else B H3) := by
  show if true = true then A H else B H
  rw [if_pos rfl]
  exact h
theorem sz0 : (0 : Nat) ≤ sizeLine := Nat.zero_le _
theorem szle {n : Nat} (h : n ≤ 100000) : n ≤ sizeLine := Nat.le_trans h (by decide)
theorem szlt {n : Nat} (h : n < 100000) : n < sizeLine := Nat.lt_of_lt_of_le h (by decide)
def keyLt : Key → Key → Bool
  | .inl i, .inl j => decide (i < j)
  | .inr s, .inr t => decide (s.cps.toList < t.cps.toList)
  | _, _ => false
def kcol (r : Row) (c : Nat) : Key := r.getD c (.inl 0)
def before : Ord → Pr → Pr → Bool
  | [], p, q => decide (p.1 < q.1)
  | t :: o, p, q => if kcol p.2 t.1 = kcol q.2 t.1 then before o p q else (keyLt (kcol p.2 t.1) (kcol q.2 t.1) == t.2)
def Cmp (o : Ord) (p q : Row) : Prop := ∀ t ∈ o, t.1 < p.length ∧ t.1 < q.length ∧ (kcol p t.1).isLeft = (kcol q t.1).isLeft
theorem kcol_get {r : Row} {c : Nat} (h : c < r.length) : r[c]? = some (kcol r c) := by
  unfold kcol
  rw [List.getD_eq_getElem?_getD, List.getElem?_eq_getElem h]
  rfl
theorem kV_inj {x y : Key} (h : kV x = kV y) : x = y := by
  cases x <;> cases y <;> simp [kV] at h <;> subst h <;> rfl
theorem kV_dec (x y : Key) : decide (kV x = kV y) = decide (x = y) := by
  by_cases h : x = y
  · subst h; simp
  · rw [decide_eq_false h, decide_eq_false fun e => h (kV_inj e)]
theorem kV_scal {x y : Key} (h : x.isLeft = y.isLeft) : scal (kV x) (kV y) = true := by
  cases x <;> cases y <;> first | rfl | cases h
theorem ltV_go {H : Hp} {Q : VK} {x y : Key} (h : x.isLeft = y.isLeft) (q : Q (.bl (keyLt x y)) H) : xLtV (kV x) (kV y) H Q := by
  cases x <;> cases y
  · exact .inl ⟨_, _, rfl, rfl, q⟩
  · cases h
  · cases h
  · exact .inr ⟨_, _, rfl, rfl, q⟩
theorem gtV_go {H : Hp} {Q : VK} {x y : Key} (h : x.isLeft = y.isLeft) (q : Q (.bl (keyLt y x)) H) : xGtV (kV x) (kV y) H Q := by
  cases x <;> cases y
  · exact .inl ⟨_, _, rfl, rfl, q⟩
  · cases h
  · cases h
  · exact .inr ⟨_, _, rfl, rfl, q⟩
theorem str_ext {s t : Str} (h : s.cps.toList = t.cps.toList) : s = t := by
  cases s; cases t
  simp at h
  subst h
  rfl
theorem keyLt_irrefl (x : Key) : keyLt x x = false := by
  cases x <;> simp [keyLt]
theorem keyLt_trans {x y z : Key} (a : keyLt x y = true) (b : keyLt y z = true) : keyLt x z = true := by
  cases x <;> cases y <;> cases z <;> simp [keyLt] at a b ⊢
  · omega
  · exact List.lt_trans a b
theorem keyLt_tot {x y : Key} (h : x.isLeft = y.isLeft) (n : x ≠ y) : keyLt y x = !keyLt x y := by
  cases x <;> cases y
  · simp only [keyLt]
    rename_i i j
    have : i ≠ j := fun e => n (by rw [e])
    by_cases e : i < j
    · rw [decide_eq_true e, decide_eq_false (by omega)]; rfl
    · rw [decide_eq_false e, decide_eq_true (by omega)]; rfl
  · cases h
  · cases h
  · simp only [keyLt]
    rename_i s t
    by_cases e : s.cps.toList < t.cps.toList
    · rw [decide_eq_true e, decide_eq_false (fun z => List.lt_irrefl _ (List.lt_trans e z))]; rfl
    · have : t.cps.toList < s.cps.toList := by
        rcases Std.lt_trichotomy s.cps.toList t.cps.toList with h1 | h1 | h1
        · exact absurd h1 e
        · exact absurd (by rw [str_ext h1]) n
        · exact h1
      rw [decide_eq_false e, decide_eq_true this]; rfl
theorem newS {H H1 : Hp} {q : Addr} {o : HO} (h : H q = none) (e : L2.upd H q o = H1) : Same H H1 := by
  subst e
  exact Rs.Same.new h
theorem newE {H H1 : Hp} {q : Addr} {o : HO} (e : L2.upd H q o = H1) : H1 q = some o := by
  subst e
  exact upd_same
end Rs

namespace Rs
open PySem PySem.Spec PyProof.Rows L2
def letters : List Nat := ("abcdefghijklmnopqrstuvwxyz" : Str).cps.toList
def isValue (k : Str) : Key → Bool
  | .inl i => decide (k ≠ "word") && (decide (-999 ≤ i) && decide (i ≤ 999))
  | .inr s => decide (k = "word") && (decide (s.length ≤ 6) && s.cps.toList.all fun c => decide (c ∈ letters))
def isRow (ks : List Str) (r : Row) : Bool := decide (r.length = ks.length) && (List.range ks.length).all fun i => isValue (ks.getD i "") (kcol r i)
structure GoodKinds (ks : List Str) : Prop where
  pos : 1 ≤ ks.length
  le : ks.length ≤ 4
  all : ∀ k ∈ ks, k = "number" ∨ k = "word"
structure GoodOrd (ks : List Str) (o : Ord) : Prop where
  ne : o ≠ []
  col : ∀ t ∈ o, t.1 < ks.length
  nd : (o.map (·.1)).Nodup
theorem isRow_len {ks : List Str} {r : Row} (h : isRow ks r = true) : r.length = ks.length := by
  unfold isRow at h
  simp only [Bool.and_eq_true, decide_eq_true_eq] at h
  exact h.1
theorem isRow_val {ks : List Str} {r : Row} (h : isRow ks r = true) {i : Nat} (hi : i < ks.length) : isValue (ks.getD i "") (kcol r i) = true := by
  unfold isRow at h
  simp only [Bool.and_eq_true, decide_eq_true_eq, List.all_eq_true, List.mem_range] at h
  exact h.2 i hi
theorem isValue_left {k : Str} {x y : Key} (a : isValue k x = true) (b : isValue k y = true) : x.isLeft = y.isLeft := by
  cases x <;> cases y <;> simp [isValue] at a b ⊢
  · exact absurd b.1 a.1
  · exact absurd a.1 b.1
theorem cmp_of {ks : List Str} {o : Ord} {p q : Row} (ho : ∀ t ∈ o, t.1 < ks.length) (hp : isRow ks p = true) (hq : isRow ks q = true) : Cmp o p q := fun t ht => by
  have h := ho t ht
  exact ⟨by rw [isRow_len hp]; exact h, by rw [isRow_len hq]; exact h, isValue_left (isRow_val hp h) (isRow_val hq h)⟩
theorem Cmp.tail {t : Nat × Bool} {o : Ord} {p q : Row} (h : Cmp (t :: o) p q) : Cmp o p q := fun u hu => h u (List.mem_cons_of_mem _ hu)
theorem Cmp.head {t : Nat × Bool} {o : Ord} {p q : Row} (h : Cmp (t :: o) p q) : (kcol p t.1).isLeft = (kcol q t.1).isLeft := (h t (List.mem_cons_self ..)).2.2
theorem before_irrefl : ∀ (o : Ord) (p : Pr), before o p p = false
  | [], p => by simp [before]
  | t :: o, p => by simp [before, before_irrefl o p]
theorem before_trans : ∀ (o : Ord) {p q r : Pr}, Cmp o p.2 q.2 → Cmp o q.2 r.2 → before o p q = true → before o q r = true → before o p r = true
  | [], p, q, r, _, _, a, b => by
    simp [before] at a b ⊢
    omega
  | t :: o, p, q, r, c1, c2, a, b => by
    unfold before at a b ⊢
    have h1 := c1.head
    have h2 := c2.head
    by_cases e1 : kcol p.2 t.1 = kcol q.2 t.1
    · rw [if_pos e1] at a
      by_cases e2 : kcol q.2 t.1 = kcol r.2 t.1
      · rw [if_pos e2] at b
        rw [if_pos (e1.trans e2)]
        exact before_trans o c1.tail c2.tail a b
      · rw [if_neg e2] at b
        rw [e1, if_neg e2]
        exact b
    · rw [if_neg e1] at a
      by_cases e2 : kcol q.2 t.1 = kcol r.2 t.1
      · rw [← e2, if_neg e1]
        exact a
      · rw [if_neg e2] at b
        have ea := beq_iff_eq.mp a
        have eb := beq_iff_eq.mp b
        have t1 := keyLt_tot h1 e1
        have t2 := keyLt_tot h2 e2
        cases ht : t.2 with
        | true =>
          rw [ht] at ea eb
          have tr := keyLt_trans ea eb
          rw [if_neg (fun z => by rw [z, keyLt_irrefl] at tr; cases tr), tr]
          rfl
        | false =>
          rw [ht] at ea eb
          rw [ea] at t1
          rw [eb] at t2
          have tr := keyLt_trans t2 t1
          have ne : kcol p.2 t.1 ≠ kcol r.2 t.1 := fun z => by rw [z, keyLt_irrefl] at tr; cases tr
          rw [if_neg ne]
          have t3 := keyLt_tot (h1.trans h2) ne
          rw [tr] at t3
          cases hk : keyLt (kcol p.2 t.1) (kcol r.2 t.1) with
          | false => rfl
          | true => rw [hk] at t3; cases t3
theorem before_tot : ∀ (o : Ord) {p q : Pr}, Cmp o p.2 q.2 → p.1 ≠ q.1 → before o q p = !before o p q
  | [], p, q, _, n => by
    simp only [before]
    by_cases e : p.1 < q.1
    · rw [decide_eq_true e, decide_eq_false (by omega)]; rfl
    · rw [decide_eq_false e, decide_eq_true (by omega)]; rfl
  | t :: o, p, q, c, n => by
    unfold before
    by_cases e1 : kcol p.2 t.1 = kcol q.2 t.1
    · rw [if_pos e1, if_pos e1.symm]
      exact before_tot o c.tail n
    · rw [if_neg e1, if_neg fun z => e1 z.symm, keyLt_tot c.head e1]
      cases keyLt (kcol p.2 t.1) (kcol q.2 t.1) <;> cases t.2 <;> rfl
structure Fine (ks : List Str) (xs : List Pr) : Prop where
  row : ∀ p ∈ xs, isRow ks p.2 = true
  nd : (xs.map (·.1)).Nodup
theorem Fine.perm {ks : List Str} {xs ys : List Pr} (h : Fine ks xs) (p : ys.Perm xs) : Fine ks ys := ⟨fun q hq => h.row q (p.mem_iff.mp hq), (p.map (·.1)).nodup_iff.mpr h.nd⟩
theorem Fine.sub {ks : List Str} {xs ys : List Pr} (h : Fine ks xs) (s : ys.Sublist xs) : Fine ks ys := ⟨fun q hq => h.row q (s.subset hq), h.nd.sublist (s.map (·.1))⟩
theorem Fine.take {ks : List Str} {xs : List Pr} (h : Fine ks xs) (n : Nat) : Fine ks (xs.take n) := h.sub (List.take_sublist _ _)
theorem Fine.drop {ks : List Str} {xs : List Pr} (h : Fine ks xs) (n : Nat) : Fine ks (xs.drop n) := h.sub (List.drop_sublist _ _)
def Up (o : Ord) (xs : List Pr) : Prop := xs.Pairwise fun p q => before o p q = true
abbrev N_is_before : List Str := ["order", "one", "other", "column", "way"]
abbrev P_is_before : List Str := ["order", "one", "other"]
def sp_is_before (K : PySem.W.Frag) : Sp := fun vs H Q E => match vs with
  | [vo, a, b] => ∃ o p q, LstV TurnAt H vo o ∧ PairAt H a p ∧ PairAt H b q ∧ Cmp o p.2 q.2 ∧ Q (.bl (before o p q)) H
  | _ => False
def t_is_before (K : PySem.W.Frag) (E : XK) : TS := (tSeq (tFor (iList K (tVar 0)) (gTup K 2 (gCons (gName 3) (gCons (gName 4) gNil))) 
    (tIfS (tTest (tOp rNe (tOp (rIxT K) (tOpC (rIxT K) (tVar 1) (.int 1)) (tVar 3)) (tOp (rIxT K) (tOpC (rIxT K) (tVar 2) (.int 1)) (tVar 3)))) (tRet (tOp rEq (tOp xLtV (tOp (rIxT K) (tOpC (rIxT K) (tVar 1) (.int 1)) (tVar 3)) (tOp (rIxT K) (tOpC (rIxT K) (tVar 2) (.int 1)) (tVar 3))) (tOpC rEq (tVar 4) (.str "up")))) tNext))
  (tRet (tOp xLt (tOpC (rIxT K) (tVar 1) (.int 0)) (tOpC (rIxT K) (tVar 2) (.int 0)))))
theorem before_cons (t : Nat × Bool) (o : Ord) (p q : Pr) : before (t :: o) p q = if kcol p.2 t.1 = kcol q.2 t.1 then before o p q else (keyLt (kcol p.2 t.1) (kcol q.2 t.1) == t.2) := rfl
theorem way_eq (b : Bool) : decide (V.str (wayS b) = V.str "up") = b := by
  cases b
  · exact decide_eq_false fun e => absurd e (by decide +kernel)
  · exact decide_eq_true rfl
theorem pure_is_before {K : PySem.W.Frag} : ∀ vs H Q E, sp_is_before K vs H Q E → t_is_before K E { nx := fun _ H' => Q .non H', rt := Q } (start N_is_before vs) H := by
  intro vs H Q E h
  match vs, h with
  | [vo, a, b], h =>
    obtain ⟨o, p, q, ⟨lo, rfl, ts, hl, hts⟩, ⟨w1, ha, hr1⟩, ⟨w2, hb, hr2⟩, hc, k⟩ := h
    refine ⟨_, rfl, lo, rfl, ⟨_, SqL.of hl⟩, for_list (K := K) (a := lo) (xs := ts) (fun i σ H' => ∃ x3 x4, σ = [some (.ref lo), some a, some b, x3, x4] ∧ H' = H ∧ before o p q = before (o.drop i) p q) ⟨none, none, rfl, rfl, rfl⟩ ?_ ?_ ?_⟩
    · rintro i σ H' _ ⟨_, _, _, rfl, _⟩
      exact SqL.of hl
    · rintro i v σ H' hi ⟨x3, x4, rfl, rfl, he⟩
      obtain ⟨t, ht, at_, rfl, et⟩ := P2.get hts hi
      have hd : o.drop i = t :: o.drop (i + 1) := drop_cons ht
      obtain ⟨c1, c2, c3⟩ := hc t (List.mem_of_getElem? ht)
      refine ⟨at_, _, rfl, SqT.of et, rfl, _, _, rfl, _, _, rfl, rfl, ?_⟩
      refine ⟨_, rfl, ixT ha (j := 1) rfl rfl ⟨_, rfl, ixT hr1 (j := t.1) rfl (by rw [List.getElem?_map, kcol_get c1]; rfl) ⟨_, rfl, ixT hb (j := 1) rfl rfl ⟨_, rfl, ixT hr2 (j := t.1) rfl (by rw [List.getElem?_map, kcol_get c2]; rfl) ⟨kV_scal c3, _, rfl, ?_⟩⟩⟩⟩⟩
      rw [kV_dec]
      rw [hd, before_cons] at he
      by_cases e : kcol p.2 t.1 = kcol q.2 t.1
      · rw [decide_eq_true e]
        rw [if_pos e] at he
        exact ⟨_, _, rfl, rfl, he⟩
      · rw [decide_eq_false e]
        rw [if_neg e] at he
        refine ⟨_, rfl, ixT ha (j := 1) rfl rfl ⟨_, rfl, ixT hr1 (j := t.1) rfl (by rw [List.getElem?_map, kcol_get c1]; rfl) ⟨_, rfl, ixT hb (j := 1) rfl rfl ⟨_, rfl, ixT hr2 (j := t.1) rfl (by rw [List.getElem?_map, kcol_get c2]; rfl) (ltV_go c3 ⟨_, rfl, rfl, rfl, ?_⟩)⟩⟩⟩⟩
        rw [way_eq]
        rw [he] at k
        have z : decide (V.bl (keyLt (kcol p.2 t.1) (kcol q.2 t.1)) = V.bl t.2) = (keyLt (kcol p.2 t.1) (kcol q.2 t.1) == t.2) := by
          cases keyLt (kcol p.2 t.1) (kcol q.2 t.1) <;> cases t.2 <;> rfl
        rw [z]
        exact k
    · rintro σ H' ⟨x3, x4, rfl, rfl, he⟩
      have e0 : before o p q = decide (p.1 < q.1) := by rw [he, List.drop_of_length_le (by rw [← hts.length]; exact Nat.le_refl _)]; rfl
      rw [e0] at k
      exact ⟨_, rfl, ixT ha (j := 0) rfl rfl ⟨_, rfl, ixT hb (j := 0) rfl rfl ⟨_, _, rfl, rfl, k⟩⟩⟩
end Rs

namespace Rs
open PySem PySem.Spec PyProof.Rows L2
structure Box (H : Hp) (a l : Addr) : Prop where
  ex : ∃ (ns : List Int) (st : Int), H a = some (.lst [.ref l, .int st]) ∧ H l = some (.lst (ns.map V.int)) ∧ 0 ≤ st
theorem Box.ne {H : Hp} {a l : Addr} (b : Box H a l) : a ≠ l := by
  obtain ⟨ns, st, h1, h2, _⟩ := b.ex
  intro e
  subst e
  rw [h1] at h2
  cases ns with
  | nil => cases h2
  | cons n ns => cases h2
theorem Box.keep {H H' : Hp} {a l : Addr} (b : Box H a l) (h1 : ∀ o, H a = some o → H' a = some o) (h2 : ∀ o, H l = some o → H' l = some o) : Box H' a l := by
  obtain ⟨ns, st, e1, e2, h⟩ := b.ex
  exact ⟨ns, st, h1 _ e1, h2 _ e2, h⟩
theorem Box.same {H H' : Hp} {a l : Addr} (b : Box H a l) (s : Same H H') : Box H' a l := b.keep (fun o => s a o) fun o => s l o
theorem Box.tup {H H' : Hp} {a l : Addr} (b : Box H a l) (k : But [a, l] H H') : TupLe H H' := fun c xs e => by
  obtain ⟨ns, st, e1, e2, h⟩ := b.ex
  refine k c _ e ?_
  intro hm
  simp at hm
  rcases hm with rfl | rfl
  · rw [e1] at e; cases e
  · rw [e2] at e; cases e
theorem un {H : Hp} {a p : Addr} {o u : HO} (h : H a = some o) (hp : H p = none) : upd H p u a = some o := by
  rw [upd_ne (ne_of_none h hp)]
  exact h
theorem up {H : Hp} {a p : Addr} {o u : HO} (h : H a = some o) (hp : a ≠ p) : upd H p u a = some o := by
  rw [upd_ne hp]
  exact h
theorem nn {a b c : Addr} (h1 : a ≠ b) (h2 : a ≠ c) : a ∉ [b, c] := by
  intro hm
  simp at hm
  rcases hm with h | h
  · exact h1 h
  · exact h2 h
abbrev N_law_begun : List Str := ["_law_script", "_law_stirred", "_law_cell"]
abbrev P_law_begun : List Str := ["_law_script"]
def sp_law_begun (K : PySem.W.Frag) : Sp := fun vs H Q E => match vs with
  | [s] => ∃ (p : Addr) (ns : List Int), s = .ref p ∧ SqL K H p (ns.map V.int) ∧ ns.length ≤ 63 ∧ ∀ a l H', H a = none → H l = none → Box H' a l → Same H H' → Q (.ref a) H'
  | _ => False
def t_law_begun (K : PySem.W.Frag) (E : XK) : TS := (tSeq (tAsg (tC (.int 0)) (gName 1))
  (tSeq (tFor (iList K (tVar 0)) (gName 2) (tAsg (tOpC xMod (tOpC xAdd (tOp xAdd (tOpC xMul (tVar 1) (.int 48271)) (tOpC xMul (tVar 2) (.int 69621))) (.int 11)) (.int 2147483647)) (gName 1)))
   (tRet (tLst (tCons (tCB1 (xList K) (tVar 0)) (tCons (tOp xMul (tVar 1) (tCB1 xInt (tOpC xGt (tCB1 (xLen K) (tVar 0)) (.int 2)))) tNil))))))
theorem pure_law_begun {K : PySem.W.Frag} : ∀ vs H Q E, sp_law_begun K vs H Q E → t_law_begun K E { nx := fun _ H' => Q .non H', rt := Q } (start N_law_begun vs) H := by
  intro vs H Q E h
  match vs, h with
  | [s], h =>
    obtain ⟨p, ns, rfl, hs, hlen, k⟩ := h
    refine ⟨_, rfl, p, rfl, ⟨_, hs⟩, for_list (K := K) (a := p) (xs := ns.map V.int) (fun i σ H' => ∃ (st : Int) (x2 : Option V), σ = [some (.ref p), some (.int st), x2] ∧ H' = H ∧ 0 ≤ st) ⟨0, none, rfl, rfl, Int.le_refl _⟩ ?_ ?_ ?_⟩
    · rintro i σ H' _ ⟨_, _, _, rfl, _⟩
      exact hs
    · rintro i v σ H' hi ⟨st, x2, rfl, rfl, h0⟩
      rw [List.getElem?_map] at hi
      obtain ⟨n, hn, rfl⟩ := Option.map_eq_some_iff.mp hi
      refine ⟨_, rfl, _, _, rfl, rfl, .inr ⟨by decide, by decide⟩, _, rfl, _, _, rfl, rfl, .inr ⟨by decide, by decide⟩, _, _, rfl, rfl, _, _, rfl, rfl, _, _, rfl, rfl, by show (0 : Int) < 2147483647; decide, ?_⟩
      exact ⟨_, _, rfl, rfl, Int.emod_nonneg _ (by decide)⟩
    · rintro σ H' ⟨st, x2, rfl, rfl, h0⟩
      refine ⟨_, rfl, p, _, rfl, .inl hs, fun l hl => ?_⟩
      have hs1 : SqL K (upd H' l (.lst (ns.map V.int))) p (ns.map V.int) := Same.seq (Rs.Same.new hl) hs
      refine ⟨_, rfl, _, rfl, p, _, rfl, .inl hs1, _, _, rfl, rfl, .inr ⟨_, rfl, ?_⟩⟩
      have hb : ∀ b : Bool, CMul st (if b = true then 1 else 0) := fun b => by cases b <;> exact .inr ⟨by decide, by decide⟩
      refine ⟨_, _, rfl, rfl, hb _, szle (by show 2 ≤ 100000; decide), fun a ha => ?_⟩
      have nal : l ≠ a := ne_of_none upd_same ha
      have hz : ∀ b : Bool, 0 ≤ st * (if b = true then (1 : Int) else 0) := fun b => by cases b <;> simp [h0]
      refine k a l _ (none_of_but (S := []) (But.same (Rs.Same.new hl)) ha (by simp)) hl ⟨ns, _, upd_same, by rw [upd_ne nal]; exact upd_same, hz _⟩ (Same.trans (Rs.Same.new hl) (Rs.Same.new ha))
abbrev N_law_take : List Str := ["_law_box", "_law_many", "_law_number"]
abbrev P_law_take : List Str := ["_law_box", "_law_many"]
def sp_law_take (K : PySem.W.Frag) : Sp := fun vs H Q E => match vs with
  | [b, m] => ∃ a l n, b = .ref a ∧ m = .int n ∧ 0 < n ∧ n ≤ 1000000000000000000 ∧ Box H a l ∧ ∀ r H', 0 ≤ r → r < n → Box H' a l → But [a, l] H H' → Q (.int r) H'
  | _ => False
def t_law_take (K : PySem.W.Frag) (E : XK) : TS := (tSeq (tIfS (tTest (tOp (xEqE K) (tOpC (rIxL K) (tVar 0) (.int 0)) (tLst tNil))) 
    (tSeq (tAsg (tOpC xMod (tOpC xMul (tOpC (rIxL K) (tVar 0) (.int 1)) (.int 48271)) (.int 2147483647)) (gSubC (tVar 0) (.int 1) rSetL))
    (tRet (tOp xMod (tOpC xDiv (tOpC (rIxL K) (tVar 0) (.int 1)) (.int 7)) (tVar 1)))) tNext)
  (tSeq (tAsg (tOpC (rIxL K) (tOpC (rIxL K) (tVar 0) (.int 0)) (.int 0)) (gName 2))
   (tSeq (tAsg (tOp xDiv (tVar 2) (tVar 1)) (gSubC (tOpC (rIxL K) (tVar 0) (.int 0)) (.int 0) rSetL))
    (tSeq (tIfS (tOr (tTest (tOpC rEq (tOpC (rIxL K) (tOpC (rIxL K) (tVar 0) (.int 0)) (.int 0)) (.int 0))) (tTest (tOpC rEq (tOpC (rIxL K) (tOpC (rIxL K) (tVar 0) (.int 0)) (.int 0)) (.int (-1))))) (tDrop (tBM K "list" rPopAt (tOpC (rIxL K) (tVar 0) (.int 0)) (tConsC (.int 0) tNil))) tNext)
     (tRet (tOp xMod (tVar 2) (tVar 1)))))))
theorem ixN_zero {n : Nat} : ixN (n + 1) 0 = some 0 := by
  unfold ixN
  rw [if_pos (by omega), if_pos (by omega)]
  rfl
theorem seqIx {n j : Nat} (h : j < n) : seqIndex? (j : Int) n = some j := (ixN_seq (ixN_nat h)).1
theorem div_ok {i j : Int} (h : 0 < j) (h2 : j ≤ 1000000000000000000) : CDivW i j := wide_div (b := 60) h (by omega) (by decide) (by decide)
theorem pure_law_take {K : PySem.W.Frag} : ∀ vs H Q E, sp_law_take K vs H Q E → t_law_take K E { nx := fun _ H' => Q .non H', rt := Q } (start N_law_take vs) H := by
  intro vs H Q E h
  match vs, h with
  | [b, m], h =>
    obtain ⟨a, l, n, rfl, rfl, hn, hn2, B, k⟩ := h
    have nal := B.ne
    obtain ⟨ns, st, ha, hl, h0⟩ := B.ex
    refine ⟨_, rfl, ixL ha (j := 0) rfl rfl ⟨sz0, fun p hp => ?_⟩⟩
    have ha1 : upd H p (.lst []) a = _ := un ha hp
    have hl1 : upd H p (.lst []) l = _ := un hl hp
    have s1 : But [a, l] H (upd H p (.lst [])) := But.same (Rs.Same.new hp)
    cases ns with
    | nil =>
      refine eqE hl hp (b := true) rfl ⟨_, rfl, ?_⟩
      refine ⟨_, rfl, ixL ha1 (j := 1) rfl rfl ⟨_, _, rfl, rfl, .inr ⟨by decide, by decide⟩, _, _, rfl, rfl, by show (0 : Int) < 2147483647; decide, ?_⟩⟩
      refine ⟨_, rfl, _, _, _, 1, rfl, rfl, ha1, rfl, ?_⟩
      refine ⟨_, rfl, ixL (j := 1) upd_same rfl rfl ⟨_, _, rfl, rfl, div_ok (by decide) (by decide), _, rfl, _, _, rfl, rfl, hn, ?_⟩⟩
      exact k _ _ (Int.emod_nonneg _ (by omega)) (Int.emod_lt_of_pos _ hn) ⟨[], _, upd_same, by rw [upd_ne nal.symm]; exact hl1, Int.emod_nonneg _ (by decide)⟩ (s1.put (by simp))
    | cons x ns =>
      refine eqE hl hp (b := false) rfl ⟨_, rfl, ?_⟩
      refine ⟨_, rfl, ixL ha1 (j := 0) rfl rfl (ixL hl1 (j := 0) rfl rfl ?_)⟩
      refine ⟨_, rfl, _, rfl, _, _, rfl, rfl, div_ok hn hn2, ?_⟩
      refine ⟨_, rfl, ixL ha1 (j := 0) rfl rfl ⟨_, _, _, 0, rfl, rfl, hl1, ixN_zero, ?_⟩⟩
      have ha2 : upd (upd H p (.lst [])) l (.lst (((x :: ns).map V.int).set 0 (.int (x / n)))) a = _ := up ha1 nal
      have hl2 : upd (upd H p (.lst [])) l (.lst (((x :: ns).map V.int).set 0 (.int (x / n)))) l = some (.lst (((x / n) :: ns).map V.int)) := upd_same
      have s2 : But [a, l] H (upd (upd H p (.lst [])) l (.lst (((x :: ns).map V.int).set 0 (.int (x / n))))) := s1.put (by simp)
      have fin : ∀ H', Box H' a l → But [a, l] H H' → Q (.int (x % n)) H' := fun H' b' k' => k _ _ (Int.emod_nonneg _ (by omega)) (Int.emod_lt_of_pos _ hn) b' k'
      have pop : ∀ D : Ends, (∀ σ H', Box H' a l → But [a, l] H H' → σ = [some (.ref a), some (.int n), some (.int x)] → D.nx σ H') → tDrop (tBM K "list" rPopAt (tOpC (rIxL K) (tVar 0) (.int 0)) (tConsC (.int 0) tNil)) D [some (.ref a), some (.int n), some (.int x)] (upd (upd H p (.lst [])) l (.lst (((x :: ns).map V.int).set 0 (.int (x / n))))) := fun D hD => by
        refine ⟨_, rfl, ixL ha2 (j := 0) rfl rfl ⟨.inl ⟨rfl, _, SqL.of hl2⟩, _, _, _, 0, _, rfl, rfl, hl2, by decide, by decide, seqIx (Nat.zero_lt_succ _), rfl, ?_⟩⟩
        refine hD _ _ ⟨ns, st, up ha2 nal, upd_same, h0⟩ (s2.put (by simp)) rfl
      refine ⟨_, rfl, ixL ha2 (j := 0) rfl rfl (ixL hl2 (j := 0) rfl rfl ⟨rfl, _, rfl, ?_⟩)⟩
      by_cases e : (V.int (x / n)) = .int 0
      · rw [decide_eq_true e]
        refine pop _ fun σ H' b' k' e' => ?_
        subst e'
        exact ⟨_, rfl, _, rfl, _, _, rfl, rfl, hn, fin _ b' k'⟩
      · rw [decide_eq_false e]
        refine ⟨_, rfl, ixL ha2 (j := 0) rfl rfl (ixL hl2 (j := 0) rfl rfl ⟨rfl, _, rfl, ?_⟩)⟩
        by_cases e' : (V.int (x / n)) = .int (-1)
        · rw [decide_eq_true e']
          refine pop _ fun σ H' b' k' e' => ?_
          subst e'
          exact ⟨_, rfl, _, rfl, _, _, rfl, rfl, hn, fin _ b' k'⟩
        · rw [decide_eq_false e']
          exact ⟨_, rfl, _, rfl, _, _, rfl, rfl, hn, fin _ ⟨(x / n) :: ns, st, ha2, hl2, h0⟩ s2⟩
abbrev N_law_kinds : List Str := ["_law_box", "_law_k"]
abbrev P_law_kinds : List Str := ["_law_box"]
def KindsAt : Rel (List Str) := fun H v ks => IsTp H v (ks.map V.str)
def sp_law_kinds (K : PySem.W.Frag) : Sp := fun vs H Q E => match vs with
  | [b] => ∃ a l, b = .ref a ∧ Box H a l ∧ ∀ v ks H', KindsAt H' v ks → GoodKinds ks → Box H' a l → But [a, l] H H' → Q v H'
  | _ => False
def t_law_kinds (K : PySem.W.Frag) (E : XK) : TS := (tRet (tCB1 (xTuple K) (tLc (iRng1 (tCons (tOpD xAdd (.int 1) (tCall (sp_law_take K) [] E (tCons (tVar 0) (tConsC (.int 4) tNil)))) tNil)) (gName 1) tYes (tOp (rIxL K) (tLst (tConsC (.str "number") (tConsC (.str "word") tNil))) (tCall (sp_law_take K) [] E0 (tCons (tVar 0) (tConsC (.int 2) tNil)))) [1])))
theorem pick2 {r : Int} (h0 : 0 ≤ r) (h1 : r < 2) : r = 0 ∨ r = 1 := by omega
theorem pick3 {r : Int} (h0 : 0 ≤ r) (h1 : r < 3) : r = 0 ∨ r = 1 ∨ r = 2 := by omega
theorem pick_two {K : PySem.W.Frag} {H : Hp} {a l : Addr} {x y : V} {Q : VK} {E : XK} {σ : L2.St} {i : Nat} (hσ : σ[i]? = some (some (.ref a))) (B : Box H a l)
    (k : ∀ z H', (z = x ∨ z = y) → Box H' a l → But [a, l] H H' → Q z H') : tOp (rIxL K) (tLst (tConsC x (tConsC y tNil))) (tCall (sp_law_take K) [] E (tCons (tVar i) (tConsC (.int 2) tNil))) σ H Q := by
  refine ⟨szle (by show 2 ≤ 100000; decide), fun p hp => ?_⟩
  obtain ⟨ns, st, ha, hl, h0⟩ := B.ex
  have B1 : Box (upd H p (.lst [x, y])) a l := B.same (Rs.Same.new hp)
  refine ⟨_, hσ, a, l, _, rfl, rfl, by decide, by decide, B1, fun r H1 h0 h1 B2 k1 => ?_⟩
  have hp1 : H1 p = some (.lst [x, y]) := k1 _ _ upd_same (nn (ne_of_none ha hp).symm (ne_of_none hl hp).symm)
  have kk : But [a, l] H H1 := But.trans (But.same (Rs.Same.new hp)) k1
  rcases pick2 h0 h1 with rfl | rfl
  · exact ixL hp1 (j := 0) rfl rfl (k _ _ (.inl rfl) B2 kk)
  · exact ixL hp1 (j := 1) rfl rfl (k _ _ (.inr rfl) B2 kk)
theorem pure_law_kinds {K : PySem.W.Frag} : ∀ vs H Q E, sp_law_kinds K vs H Q E → t_law_kinds K E { nx := fun _ H' => Q .non H', rt := Q } (start N_law_kinds vs) H := by
  intro vs H Q E h
  match vs, h with
  | [b], h =>
    obtain ⟨a, l, rfl, B, k⟩ := h
    refine ⟨_, rfl, a, l, _, rfl, rfl, by decide, by decide, B, fun r H1 h0 h1 B1 k1 => ⟨_, _, rfl, rfl, _, rfl, by omega, by omega, fun D hD => ?_⟩⟩
    obtain ⟨ns, st, ha, hl, _⟩ := B1.ex
    have nDa := (ne_of_none ha hD).symm
    have nDl := (ne_of_none hl hD).symm
    refine lc_range (lo := 0) (n := (1 + r).toNat) (fun i H' => ∃ ks : List Str, H' D = some (.lst (ks.map V.str)) ∧ ks.length = i ∧ (∀ x ∈ ks, x = "number" ∨ x = "word") ∧ Box H' a l ∧ But [a, l] H H')
      ⟨[], upd_same, rfl, by simp, B1.same (Rs.Same.new hD), k1.new hD⟩ ?_ ?_
    · rintro i H' hi ⟨ks, hd, hlen, hall, B', k'⟩
      refine ⟨rfl, ?_⟩
      refine lc_yes (pick_two (i := 0) rfl B' fun z H2 hz B2 k2 => ?_)
      have hd2 := k2 _ _ hd (nn nDa nDl)
      have fin : ∀ s : Str, z = .str s → (s = "number" ∨ s = "word") → ∃ acc, H2 D = some (.lst acc) ∧ acc.length < sizeLine ∧ ∃ ks : List Str, upd H2 D (.lst (acc ++ [z])) D = some (.lst (ks.map V.str)) ∧ ks.length = i + 1 ∧ (∀ x ∈ ks, x = "number" ∨ x = "word") ∧ Box (upd H2 D (.lst (acc ++ [z]))) a l ∧ But [a, l] H (upd H2 D (.lst (acc ++ [z]))) := fun s es hs => by
        subst es
        have hz0 : H D = none := none_of_but k1 hD (nn nDa nDl)
        exact ⟨_, hd2, szlt (by rw [List.length_map]; omega), ks ++ [s], by rw [upd_same, List.map_append] <;> rfl, by simp [hlen], fun x hx => (List.mem_append.mp hx).elim (hall x) fun hx => by rw [List.mem_singleton.mp hx]; exact hs, B2.keep (fun o e => up e nDa.symm) (fun o e => up e nDl.symm), (k'.trans k2).mut hz0⟩
      rcases hz with rfl | rfl
      · exact fin _ rfl (.inl rfl)
      · exact fin _ rfl (.inr rfl)
    · rintro H' ⟨ks, hd, hlen, hall, B', k'⟩
      refine ⟨_, _, rfl, .inl ⟨SqL.of hd, fun t ht => ?_⟩⟩
      exact k _ ks _ ⟨t, rfl, upd_same⟩ ⟨by omega, by omega, hall⟩ (B'.same (Rs.Same.new ht)) (k'.new ht)
abbrev N_law_order : List Str := ["_law_box", "_law_kinds_here", "_law_left", "_law_found", "_law_turn"]
abbrev P_law_order : List Str := ["_law_box", "_law_kinds_here"]
def sp_law_order (K : PySem.W.Frag) : Sp := fun vs H Q E => match vs with
  | [b, kv] => ∃ a l ks, b = .ref a ∧ Box H a l ∧ KindsAt H kv ks ∧ GoodKinds ks ∧ ∀ f o H', H f = none → Lst TurnAt H' f o → GoodOrd ks o → Box H' a l → But [a, l] H H' → Q (.ref f) H'
  | _ => False
def t_law_order (K : PySem.W.Frag) (E : XK) : TS := (tSeq (tAsg (tLstRg (tRg1 (tCB1 (xLen K) (tVar 1)))) (gName 2))
  (tSeq (tAsg (tLst tNil) (gName 3))
   (tSeq (tFor (iRng1 (tCons (tOpD xAdd (.int 1) (tCall (sp_law_take K) [] E (tCons (tVar 0) (tCons (tCB1 (xLen K) (tVar 1)) tNil)))) tNil)) (gName 4) (tDrop (tBM K "list" rAppend (tVar 3) (tCons (tTup (tCons (tBM K "list" rPopAt (tVar 2) (tCons (tCall (sp_law_take K) [] E (tCons (tVar 0) (tCons (tCB1 (xLen K) (tVar 2)) tNil))) tNil)) (tCons (tOp (rIxL K) (tLst (tConsC (.str "up") (tConsC (.str "down") tNil))) (tCall (sp_law_take K) [] E (tCons (tVar 0) (tConsC (.int 2) tNil)))) tNil))) tNil))))
    (tRet (tVar 3)))))
theorem map_erase {α β : Type} (f : α → β) : ∀ (l : List α) (i : Nat), (l.map f).eraseIdx i = (l.eraseIdx i).map f
  | [], _ => rfl
  | _ :: _, 0 => rfl
  | a :: l, i + 1 => by simpa using map_erase f l i
theorem take_append_erase {α : Type} : ∀ {l : List α} {i : Nat} {x : α}, l[i]? = some x → l.Perm (x :: l.eraseIdx i)
  | [], _, _, h => by simp at h
  | a :: l, 0, x, h => by simp at h; subst h; exact .refl _
  | a :: l, i + 1, x, h => by
    have ih := take_append_erase (l := l) (i := i) (x := x) (by simpa using h)
    exact (ih.cons a).trans (List.Perm.swap x a _)
theorem pure_law_order {K : PySem.W.Frag} : ∀ vs H Q E, sp_law_order K vs H Q E → t_law_order K E { nx := fun _ H' => Q .non H', rt := Q } (start N_law_order vs) H := by
  intro vs H Q E h
  match vs, h with
  | [b, kv], h =>
    obtain ⟨a, l, ks, rfl, B, hk, gk, k⟩ := h
    obtain ⟨ns, st, ha, hl, _⟩ := B.ex
    have g1 := gk.pos
    have g4 := gk.le
    obtain ⟨kt, rfl, hkt⟩ := hk
    refine ⟨_, rfl, _, _, rfl, .inr (SqT.of hkt), _, rfl, RgOk.of_le (by decide) (by rw [List.length_map]; omega) (by decide) (by omega), fun q hq => ?_⟩
    refine ⟨sz0, fun f hf => ?_⟩
    have B0 : Box (upd (upd H q (.lst (rgV 0 ((ks.map V.str).length : Nat)))) f (.lst [])) a l := (B.same (Rs.Same.new hq)).same (Rs.Same.new hf)
    have nqf : q ≠ f := ne_of_none upd_same hf
    have hf0 : H f = none := none_of_but (S := []) (But.same (Rs.Same.new hq)) hf (by simp)
    have qa := (ne_of_none ha hq).symm
    have ql := (ne_of_none hl hq).symm
    have fa := (ne_of_none ha hf0).symm
    have fl := (ne_of_none hl hf0).symm
    have k0 : But [a, l] H (upd (upd H q (.lst (rgV 0 ((ks.map V.str).length : Nat)))) f (.lst [])) := (But.same (Rs.Same.new hq)).new hf
    have kt0 := k0 _ _ hkt (nn (ne_of hkt ha (by intro z; cases z)) (ne_of hkt hl (by intro z; cases z)))
    refine ⟨_, rfl, _, rfl, _, _, rfl, .inr (SqT.of kt0), a, l, _, rfl, rfl, by rw [List.length_map]; omega, by rw [List.length_map]; omega, B0, fun r H1 h0 h1 B1 k1 => ?_⟩
    rw [List.length_map] at h1
    refine ⟨_, _, rfl, rfl, _, rfl, by omega, by omega, ?_⟩
    refine for_range (lo := 0) (n := (1 + r).toNat) (fun i σ H' => ∃ (ls : List Nat) (o : Ord) (x4 : Option V), σ = [some (.ref a), some (.ref kt), some (.ref q), some (.ref f), x4] ∧ H' q = some (.lst (ls.map fun (n : Nat) => V.int (n : Int))) ∧ Lst TurnAt H' f o ∧
      Box H' a l ∧ But [a, l] H H' ∧ (o.map (·.1) ++ ls).Perm (List.range ks.length) ∧ o.length = i) ?_ ?_ ?_
    · refine ⟨List.range ks.length, [], none, rfl, ?_, ⟨[], k1 _ _ upd_same (nn fa fl), .nil⟩, B1, k0.trans k1, by simp, rfl⟩
      rw [k1 q _ (un upd_same hf) (nn qa ql)]
      unfold rgV
      rw [List.length_map]
      simp
    · rintro i σ H' hi ⟨ls, o, x4, rfl, hq', ⟨tv, hf', ht'⟩, B', k', hp, hlen⟩
      have hll : ls.length + i = ks.length := by
        have e := hp.length_eq
        simp at e
        omega
      refine ⟨_, rfl, .inl ⟨rfl, _, SqL.of hf'⟩, _, rfl, .inl ⟨rfl, _, SqL.of hq'⟩, _, rfl, _, rfl, _, _, rfl, .inl (SqL.of hq'), a, l, _, rfl, rfl, by rw [List.length_map]; omega, by rw [List.length_map]; omega, B', fun r2 H2 h20 h21 B2 k2 => ?_⟩
      rw [List.length_map] at h21
      have hq2 := k2 _ _ hq' (nn qa ql)
      have hf2 := k2 _ _ hf' (nn fa fl)
      obtain ⟨j, rfl⟩ : ∃ j : Nat, r2 = (j : Int) := ⟨r2.toNat, by omega⟩
      have hj : j < ls.length := by omega
      refine ⟨_, _, _, j, _, rfl, rfl, hq2, by omega, by omega, seqIx (by rw [List.length_map]; exact hj), by rw [List.getElem?_map, List.getElem?_eq_getElem hj]; rfl, ?_⟩
      have hf3 : upd H2 q (.lst ((ls.map fun (n : Nat) => V.int (n : Int)).eraseIdx j)) f = _ := up hf2 nqf.symm
      have B3 : Box (upd H2 q (.lst ((ls.map fun (n : Nat) => V.int (n : Int)).eraseIdx j))) a l := B2.keep (fun o e => up e qa.symm) (fun o e => up e ql.symm)
      have k3 : But [a, l] H (upd H2 q (.lst ((ls.map fun (n : Nat) => V.int (n : Int)).eraseIdx j))) := (k'.trans k2).mut hq
      have t3 : TupLe H' (upd H2 q (.lst ((ls.map fun (n : Nat) => V.int (n : Int)).eraseIdx j))) := (B'.tup k2).list hq2
      refine pick_two (i := 0) rfl B3 fun z H4 hz B4 k4 => ?_
      have hf4 := k4 _ _ hf3 (nn fa fl)
      have hq4 := k4 _ _ upd_same (nn qa ql)
      have t4 := t3.trans (B3.tup k4)
      refine ⟨szle (by show 2 ≤ 100000; decide), fun t ht => ?_⟩
      have nft := ne_of_none hf4 ht
      have nqt := ne_of_none hq4 ht
      have ol : o.length ≤ 4 := by omega
      refine ⟨_, _, _, rfl, rfl, un hf4 ht, szlt (by have := ht'.length; omega), ?_⟩
      obtain ⟨w, rfl⟩ : ∃ w : Bool, z = .str (wayS w) := by
        rcases hz with rfl | rfl
        · exact ⟨true, rfl⟩
        · exact ⟨false, rfl⟩
      refine ⟨ls.eraseIdx j, o ++ [(ls[j], w)], _, rfl, ?_, ⟨_, upd_same, ?_⟩, (B4.same (Rs.Same.new ht)).keep (fun o e => up e fa.symm) (fun o e => up e fl.symm), ((k3.trans k4).new ht).mut hf0, ?_, by simp [hlen]⟩
      · rw [upd_ne nqf, un hq4 ht, map_erase]
      · refine P2.app (Paired.tl TurnAt.st ((t4.trans (TupLe.new ht)).list (un hf4 ht)) ht') (P2.one ⟨t, rfl, ?_⟩)
        rw [upd_ne nft.symm]
        exact upd_same
      · refine List.Perm.trans ?_ hp
        rw [List.map_append, List.append_assoc]
        exact List.Perm.append_left _ (take_append_erase (List.getElem?_eq_getElem hj)).symm
    · rintro σ H' ⟨ls, o, x4, rfl, hq', hf', B', k', hp, hlen⟩
      refine ⟨_, rfl, k f o H' hf0 hf' ⟨fun e => ?_, fun t ht => ?_, ?_⟩ B' k'⟩
      · subst e
        simp at hlen
        omega
      · have : t.1 ∈ List.range ks.length := hp.mem_iff.mp (List.mem_append_left _ (List.mem_map_of_mem ht))
        exact List.mem_range.mp this
      · exact (List.nodup_append.mp (hp.nodup_iff.mpr List.nodup_range)).1
abbrev N_law_value : List Str := ["_law_box", "_law_kind", "_law_many", "_law_letters", "_law_k"]
abbrev P_law_value : List Str := ["_law_box", "_law_kind"]
def sp_law_value (K : PySem.W.Frag) : Sp := fun vs H Q E => match vs with
  | [b, kv] => ∃ a l kd, b = .ref a ∧ kv = .str kd ∧ (kd = "number" ∨ kd = "word") ∧ Box H a l ∧ ∀ x H', isValue kd x = true → Box H' a l → But [a, l] H H' → Q (kV x) H'
  | _ => False
def t_law_value (K : PySem.W.Frag) (E : XK) : TS := (tSeq (tIfS (tTest (tOpC rEq (tVar 1) (.str "number"))) (tRet (tOp (rIxL K) (tLst (tCons (tCall (sp_law_take K) [] E (tCons (tVar 0) (tConsC (.int 4) tNil))) (tCons (tOpC xSub (tCall (sp_law_take K) [] E (tCons (tVar 0) (tConsC (.int 1999) tNil))) (.int 999)) (tCons (tOp (rIxL K) (tLst (tConsC (.int (-999)) (tConsC (.int 999) (tConsC (.int 0) tNil)))) (tCall (sp_law_take K) [] E (tCons (tVar 0) (tConsC (.int 3) tNil)))) tNil)))) (tCall (sp_law_take K) [] E (tCons (tVar 0) (tConsC (.int 3) tNil))))) tNext)
  (tSeq (tAsg (tCall (sp_law_take K) [] E (tCons (tVar 0) (tCons (tOp (rIxL K) (tLst (tConsC (.int 3) (tConsC (.int 7) tNil))) (tCall (sp_law_take K) [] E (tCons (tVar 0) (tConsC (.int 2) tNil)))) tNil))) (gName 2))
   (tSeq (tAsg (tOp (rIxL K) (tLst (tConsC (.str "abz") (tConsC (.str "abcdefghijklmnopqrstuvwxyz") tNil))) (tCall (sp_law_take K) [] E (tCons (tVar 0) (tConsC (.int 2) tNil)))) (gName 3))
    (tRet (tM1 (xJoin K) (tC (.str "")) (tLc (iRng1 (tCons (tVar 2) tNil)) (gName 4) tYes (tOp rIxS (tVar 3) (tCall (sp_law_take K) [] E0 (tCons (tVar 0) (tCons (tCB1 xLenS (tVar 3)) tNil)))) [4]))))))
theorem joinL_nil : ∀ ps : List (List Nat), TL.joinL [] ps = ps.flatten
  | [] => rfl
  | [p] => by simp [TL.joinL]
  | p :: q :: r => by
    show p ++ ([] ++ TL.joinL [] (q :: r)) = _
    rw [joinL_nil (q :: r)]
    simp
theorem join_signs (cs : List Nat) : Txt.join "" (cs.map fun c => (⟨#[c]⟩ : Str)) = ⟨cs.toArray⟩ := by
  apply str_ext
  have e := TL.tl_join "" (cs.map fun c => (⟨#[c]⟩ : Str))
  rw [TL.join_eq]
  show TL.tl (Str.join "" (cs.map fun c => (⟨#[c]⟩ : Str))) = cs
  rw [e]
  have e2 : TL.tl ("" : Str) = [] := by decide +kernel
  rw [e2, joinL_nil, List.map_map]
  clear e
  induction cs with
  | nil => rfl
  | cons c cs ih =>
    rw [List.map_cons, List.flatten_cons, ih]
    rfl
theorem sign_map (cs : List Nat) : (cs.map fun c => V.str ⟨#[c]⟩) = (cs.map fun c => (⟨#[c]⟩ : Str)).map V.str := by rw [List.map_map] <;> rfl
theorem sum_ones (cs : List Nat) : ((cs.map fun c => (⟨#[c]⟩ : Str)).map (·.length)).sum = cs.length := by
  induction cs with
  | nil => rfl
  | cons c cs ih => rw [List.map_cons, List.map_cons, List.sum_cons, ih, List.length_cons]; show 1 + _ = _; omega
theorem abz_letters : ∀ c ∈ ("abz" : Str).cps.toList, c ∈ letters := by decide +kernel
theorem pure_law_value {K : PySem.W.Frag} : ∀ vs H Q E, sp_law_value K vs H Q E → t_law_value K E { nx := fun _ H' => Q .non H', rt := Q } (start N_law_value vs) H := by
  intro vs H Q E h
  match vs, h with
  | [b, kv], h =>
    obtain ⟨a, l, kd, rfl, rfl, hkd, B, k⟩ := h
    obtain ⟨ns, st, ha, hl, _⟩ := B.ex
    refine ⟨_, rfl, rfl, _, rfl, ?_⟩
    rcases hkd with rfl | rfl
    · -- a number
      have e1 : decide (V.str "number" = V.str "number") = true := decide_eq_true rfl
      rw [e1]
      refine ⟨_, rfl, a, l, _, rfl, rfl, by decide, by decide, B, fun r1 H1 a0 a1 B1 k1 => ?_⟩
      refine ⟨_, rfl, a, l, _, rfl, rfl, by decide, by decide, B1, fun r2 H2 b0 b1 B2 k2 => ⟨_, _, rfl, rfl, ?_⟩⟩
      refine ⟨szle (by show 3 ≤ 100000; decide), fun p hp => ?_⟩
      have B2' := B2.same (Rs.Same.new (o := .lst [.int (-999), .int 999, .int 0]) hp)
      refine ⟨_, rfl, a, l, _, rfl, rfl, by decide, by decide, B2', fun r3 H3 c0 c1 B3 k3 => ?_⟩
      obtain ⟨_, _, ha2, hl2, _⟩ := B2.ex
      have hp3 := k3 _ _ upd_same (nn (ne_of_none ha2 hp).symm (ne_of_none hl2 hp).symm)
      have k13 : But [a, l] H H3 := (k1.trans k2).trans ((But.same (Rs.Same.new hp)).trans k3)
      have last : ∀ z : Int, -999 ≤ z → z ≤ 999 → ∀ x y : Int, r1 = x → r2 - 999 = y → 3 ≤ sizeLine ∧ ∀ p', H3 p' = none → (tCall (sp_law_take K) [] E (tCons (tVar 0) (tConsC (.int 3) tNil))) [some (.ref a), some (.str "number"), none, none, none] (upd H3 p' (.lst [.int x, .int y, .int z])) fun y H4 => rIxL K (.ref p') y H4 Q := fun z z0 z1 x y ex ey => by
        refine ⟨szle (by show 3 ≤ 100000; decide), fun p' hp' => ?_⟩
        have B3' := B3.same (Rs.Same.new (o := .lst [.int x, .int y, .int z]) hp')
        refine ⟨_, rfl, a, l, _, rfl, rfl, by decide, by decide, B3', fun r4 H4 d0 d1 B4 k4 => ?_⟩
        obtain ⟨_, _, ha3, hl3, _⟩ := B3.ex
        have hp4 := k4 _ _ upd_same (nn (ne_of_none ha3 hp').symm (ne_of_none hl3 hp').symm)
        have k14 : But [a, l] H H4 := k13.trans ((But.same (Rs.Same.new hp')).trans k4)
        have fin : ∀ i : Int, -999 ≤ i → i ≤ 999 → Q (.int i) H4 := fun i i0 i1 => k (.inl i) H4 (by simp [isValue, i0, i1]; decide +kernel) B4 k14
        rcases pick3 d0 d1 with rfl | rfl | rfl
        · exact ixL hp4 (j := 0) rfl rfl (fin _ (by omega) (by omega))
        · exact ixL hp4 (j := 1) rfl rfl (fin _ (by omega) (by omega))
        · exact ixL hp4 (j := 2) rfl rfl (fin _ z0 z1)
      rcases pick3 c0 c1 with rfl | rfl | rfl
      · exact ixL hp3 (j := 0) rfl rfl (last _ (by decide) (by decide) _ _ rfl rfl)
      · exact ixL hp3 (j := 1) rfl rfl (last _ (by decide) (by decide) _ _ rfl rfl)
      · exact ixL hp3 (j := 2) rfl rfl (last _ (by decide) (by decide) _ _ rfl rfl)
    · -- a word
      have e1 : decide (V.str "word" = V.str "number") = false := by decide +kernel
      rw [e1]
      refine ⟨_, rfl, pick_two (i := 0) rfl B fun z H1 hz B1 k1 => ?_⟩
      have one : ∀ m : Int, 0 < m → m ≤ 7 → z = .int m → (tNil (([some (.ref a), some (.str "word"), none, none, none] : List (Option V))) H1 fun xs H2 => sp_law_take K (.ref a :: z :: xs) H2 (fun v H3 => (tSeq (tAsg (tOp (rIxL K) (tLst (tConsC (.str "abz") (tConsC (.str "abcdefghijklmnopqrstuvwxyz") tNil))) (tCall (sp_law_take K) [] E (tCons (tVar 0) (tConsC (.int 2) tNil)))) (gName 3))
          (tRet (tM1 (xJoin K) (tC (.str "")) (tLc (iRng1 (tCons (tVar 2) tNil)) (gName 4) tYes (tOp rIxS (tVar 3) (tCall (sp_law_take K) [] E0 (tCons (tVar 0) (tCons (tCB xLenS (tCons (tVar 3) tNil)) tNil)))) [4])))) { nx := fun _ H' => Q .non H', rt := Q } ([some (.ref a), some (.str "word"), some v, none, none]) H3) E) := fun m m0 m7 em => by
        subst em
        refine ⟨a, l, m, rfl, rfl, m0, by omega, B1, fun n H2 n0 n1 B2 k2 => ?_⟩
        refine pick_two (i := 0) rfl B2 fun t H3 ht B3 k3 => ?_
        have k03 : But [a, l] H H3 := (k1.trans k2).trans k3
        obtain ⟨ls, el, hpos, hsz, hlet⟩ : ∃ ls : Str, t = .str ls ∧ 0 < ls.length ∧ ls.length ≤ 26 ∧ ∀ c ∈ ls.cps.toList, c ∈ letters := by
          rcases ht with rfl | rfl
          · exact ⟨_, rfl, by decide +kernel, by decide +kernel, abz_letters⟩
          · exact ⟨_, rfl, by decide +kernel, by decide +kernel, fun c h => h⟩
        subst el
        refine ⟨⟨_, rfl⟩, _, rfl, _, rfl, by omega, by omega, fun D hD => ?_⟩
        obtain ⟨_, _, ha3, hl3, _⟩ := B3.ex
        have nDa := (ne_of_none ha3 hD).symm
        have nDl := (ne_of_none hl3 hD).symm
        have hD0 : H D = none := none_of_but k03 hD (nn nDa nDl)
        refine lc_range (lo := 0) (n := n.toNat) (fun i H' => ∃ cs : List Nat, H' D = some (.lst (cs.map fun c => V.str ⟨#[c]⟩)) ∧ cs.length = i ∧ (∀ c ∈ cs, c ∈ letters) ∧ Box H' a l ∧ But [a, l] H H')
          ⟨[], upd_same, rfl, by simp, B3.same (Rs.Same.new hD), k03.new hD⟩ ?_ ?_
        · rintro i H' hi ⟨cs, hd, hlen, hall, B', k'⟩
          refine ⟨rfl, lc_yes ?_⟩
          refine ⟨_, rfl, _, rfl, _, rfl, _, rfl, szle (by omega), a, l, _, rfl, rfl, by omega, by omega, B', fun r H2 r0 r1 B2 k2 => ?_⟩
          have hd2 := k2 _ _ hd (nn nDa nDl)
          obtain ⟨j, rfl⟩ : ∃ j : Nat, r = (j : Int) := ⟨r.toNat, by omega⟩
          have hj : j < ls.cps.toList.length := by
            have : ls.length = ls.cps.toList.length := by simp [Str.length]
            omega
          refine ⟨_, _, _, rfl, rfl, szle (by omega), atI_nat (List.getElem?_eq_getElem hj), _, hd2, szlt (by rw [List.length_map]; omega), cs ++ [ls.cps.toList[j]], ?_, by simp [hlen], fun c hc => ?_, B2.keep (fun o e => up e nDa.symm) (fun o e => up e nDl.symm), (k'.trans k2).mut hD0⟩
          · rw [upd_same, List.map_append] <;> rfl
          · rcases List.mem_append.mp hc with h | h
            · exact hall c h
            · rw [List.mem_singleton.mp h]
              exact hlet _ (List.getElem_mem hj)
        · rintro H' ⟨cs, hd, hlen, hall, B', k'⟩
          refine ⟨_, D, (cs.map fun c => (⟨#[c]⟩ : Str)), rfl, rfl, .inl (SqL.of (by rw [hd, sign_map])), ?_, ?_⟩
          · rw [sum_ones]
            have e0 : ("" : Str).length = 0 := by decide +kernel
            rw [e0]
            omega
          · rw [join_signs]
            refine k (.inr ⟨cs.toArray⟩) H' ?_ B' k'
            simp only [isValue, Bool.and_eq_true, decide_eq_true_eq, List.all_eq_true]
            refine ⟨trivial, ?_, fun c hc => hall c (by simpa using hc)⟩
            show cs.toArray.size ≤ 6
            rw [List.size_toArray]
            omega
      rcases hz with rfl | rfl
      · exact one 3 (by decide) (by decide) rfl
      · exact one 7 (by decide) (by decide) rfl
abbrev N_law_ahead : List Str := ["_law_order_here", "_law_one", "_law_other", "_law_column", "_law_way", "_law_mine", "_law_theirs"]
abbrev P_law_ahead : List Str := ["_law_order_here", "_law_one", "_law_other"]
def sp_law_ahead (K : PySem.W.Frag) : Sp := sp_is_before K
def t_law_ahead (K : PySem.W.Frag) (E : XK) : TS := (tSeq (tFor (iList K (tVar 0)) (gTup K 2 (gCons (gName 3) (gCons (gName 4) gNil))) 
    (tSeq (tPar 5 6 (tCons (tOp (rIxT K) (tOpC (rIxT K) (tVar 1) (.int 1)) (tVar 3)) (tCons (tOp (rIxT K) (tOpC (rIxT K) (tVar 2) (.int 1)) (tVar 3)) tNil)))
    (tIfS (tTest (tOp rNe (tVar 5) (tVar 6))) (tRet (tIf (tTest (tOpC rEq (tVar 4) (.str "up"))) (tOp xLtV (tVar 5) (tVar 6)) (tOp xGtV (tVar 5) (tVar 6)))) tNext)))
  (tRet (tOp xLt (tOpC (rIxT K) (tVar 1) (.int 0)) (tOpC (rIxT K) (tVar 2) (.int 0)))))
theorem pure_law_ahead {K : PySem.W.Frag} : ∀ vs H Q E, sp_law_ahead K vs H Q E → t_law_ahead K E { nx := fun _ H' => Q .non H', rt := Q } (start N_law_ahead vs) H := by
  intro vs H Q E h
  unfold sp_law_ahead at h
  match vs, h with
  | [vo, a, b], h =>
    obtain ⟨o, p, q, ⟨lo, rfl, ts, hl, hts⟩, ⟨w1, ha, hr1⟩, ⟨w2, hb, hr2⟩, hc, k⟩ := h
    refine ⟨_, rfl, lo, rfl, ⟨_, SqL.of hl⟩, for_list (K := K) (a := lo) (xs := ts) (fun i σ H' => ∃ x3 x4 x5 x6, σ = [some (.ref lo), some a, some b, x3, x4, x5, x6] ∧ H' = H ∧ before o p q = before (o.drop i) p q) ⟨none, none, none, none, rfl, rfl, rfl⟩ ?_ ?_ ?_⟩
    · rintro i σ H' _ ⟨_, _, _, _, _, rfl, _⟩
      exact SqL.of hl
    · rintro i v σ H' hi ⟨x3, x4, x5, x6, rfl, rfl, he⟩
      obtain ⟨t, ht, at_, rfl, et⟩ := P2.get hts hi
      have hd : o.drop i = t :: o.drop (i + 1) := drop_cons ht
      obtain ⟨c1, c2, c3⟩ := hc t (List.mem_of_getElem? ht)
      refine ⟨at_, _, rfl, SqT.of et, rfl, _, _, rfl, _, _, rfl, rfl, ?_⟩
      refine ⟨_, rfl, ixT ha (j := 1) rfl rfl ⟨_, rfl, ixT hr1 (j := t.1) rfl (by rw [List.getElem?_map, kcol_get c1]; rfl) ⟨_, rfl, ixT hb (j := 1) rfl rfl ⟨_, rfl, ixT hr2 (j := t.1) rfl (by rw [List.getElem?_map, kcol_get c2]; rfl) ⟨_, _, rfl, _, rfl, _, rfl, kV_scal c3, _, rfl, ?_⟩⟩⟩⟩⟩
      rw [kV_dec]
      rw [hd, before_cons] at he
      by_cases e : kcol p.2 t.1 = kcol q.2 t.1
      · rw [decide_eq_true e]
        rw [if_pos e] at he
        exact ⟨_, _, _, _, rfl, rfl, he⟩
      · rw [decide_eq_false e]
        rw [if_neg e] at he
        refine ⟨_, rfl, rfl, _, rfl, ?_⟩
        rw [way_eq]
        rw [he] at k
        cases hw : t.2 with
        | true =>
          rw [hw] at k
          refine ⟨_, rfl, _, rfl, ltV_go c3 ?_⟩
          have z : (keyLt (kcol p.2 t.1) (kcol q.2 t.1) == true) = keyLt (kcol p.2 t.1) (kcol q.2 t.1) := by cases keyLt (kcol p.2 t.1) (kcol q.2 t.1) <;> rfl
          rw [z] at k
          exact k
        | false =>
          rw [hw] at k
          refine ⟨_, rfl, _, rfl, gtV_go c3 ?_⟩
          rw [keyLt_tot c3 e]
          have z : (keyLt (kcol p.2 t.1) (kcol q.2 t.1) == false) = !keyLt (kcol p.2 t.1) (kcol q.2 t.1) := by cases keyLt (kcol p.2 t.1) (kcol q.2 t.1) <;> rfl
          rw [z] at k
          exact k
    · rintro σ H' ⟨x3, x4, x5, x6, rfl, rfl, he⟩
      have e0 : before o p q = decide (p.1 < q.1) := by rw [he, List.drop_of_length_le (by rw [← hts.length]; exact Nat.le_refl _)]; rfl
      rw [e0] at k
      exact ⟨_, rfl, ixT ha (j := 0) rfl rfl ⟨_, rfl, ixT hb (j := 0) rfl rfl ⟨_, _, rfl, rfl, k⟩⟩⟩
abbrev N_law_rows : List Str := ["_law_box", "_law_kinds_here", "_law_most", "_law_found", "_law_way", "_law_turn", "_law_row", "_law_kind"]
abbrev P_law_rows : List Str := ["_law_box", "_law_kinds_here", "_law_most"]
def sp_law_rows (K : PySem.W.Frag) : Sp := fun vs H Q E => match vs with
  | [b, kv, m] => ∃ a l ks n, b = .ref a ∧ m = .int n ∧ 0 ≤ n ∧ n ≤ 1000 ∧ Box H a l ∧ KindsAt H kv ks ∧ GoodKinds ks ∧
    ∀ f rows H', H f = none → Lst RowAt H' f rows → (∀ r ∈ rows, isRow ks r = true) → (rows.length : Int) ≤ n → Box H' a l → But [a, l] H H' → Q (.ref f) H'
  | _ => False
def t_law_rows (K : PySem.W.Frag) (E : XK) : TS := (tSeq (tAsg (tLst tNil) (gName 3))
  (tSeq (tAsg (tCall (sp_law_take K) [] E (tCons (tVar 0) (tConsC (.int 4) tNil))) (gName 4))
   (tSeq (tFor (iRng1 (tCons (tCall (sp_law_take K) [] E (tCons (tVar 0) (tCons (tOpC xAdd (tVar 2) (.int 1)) tNil))) tNil)) (gName 5) 
      (tSeq (tAsg (tLc (iTup K (tVar 1)) (gName 7) tYes (tCall (sp_law_value K) [] E0 (tCons (tVar 0) (tCons (tVar 7) tNil))) [7]) (gName 6))
      (tSeq (tIfS (tAnd (tTest (tOp (xNeE K) (tVar 3) (tLst tNil))) (tTest (tOpC rEq (tCall (sp_law_take K) [] E (tCons (tVar 0) (tConsC (.int 3) tNil))) (.int 0)))) (tAsg (tCB1 (xList K) (tOp (rIxL K) (tVar 3) (tCall (sp_law_take K) [] E (tCons (tVar 0) (tCons (tCB1 (xLen K) (tVar 3)) tNil))))) (gName 6)) tNext)
       (tSeq (tIfS (tAnd (tTest (tOp (xNeE K) (tVar 3) (tLst tNil))) (tAnd (tTest (tOpC xLt (tVar 4) (.int 2))) (tTest (tOpC rEq (tOpC (rIxT K) (tVar 1) (.int 0)) (.str "number"))))) (tAsg (tCB xMax2 (tConsC (.int (-999)) (tCons (tCB xMin2 (tConsC (.int 999) (tCons (tOp xAdd (tOpC (rIxT K) (tOpC (rIxL K) (tVar 3) (.int (-1))) (.int 0)) (tOp xMul (tOp (rIxL K) (tLst (tConsC (.int 1) (tConsC (.int (-1)) tNil))) (tVar 4)) (tCall (sp_law_take K) [] E (tCons (tVar 0) (tConsC (.int 3) tNil))))) tNil))) tNil))) (gSubC (tVar 6) (.int 0) rSetL)) tNext)
        (tDrop (tBM K "list" rAppend (tVar 3) (tCons (tCB1 (xTuple K) (tVar 6)) tNil)))))))
    (tRet (tVar 3)))))
theorem isRow_of {ks : List Str} {r : Row} (h1 : r.length = ks.length) (h2 : ∀ i, i < ks.length → isValue (ks.getD i "") (kcol r i) = true) : isRow ks r = true := by
  unfold isRow
  simp only [Bool.and_eq_true, decide_eq_true_eq, List.all_eq_true, List.mem_range]
  exact ⟨h1, h2⟩
theorem kcol_append {r : Row} {x : Key} {i : Nat} : kcol (r ++ [x]) i = if i < r.length then kcol r i else if i = r.length then x else .inl 0 := by
  unfold kcol
  rw [List.getD_eq_getElem?_getD, List.getD_eq_getElem?_getD, List.getElem?_append]
  by_cases h : i < r.length
  · rw [if_pos h, if_pos h]
  · rw [if_neg h, if_neg h]
    by_cases e : i = r.length
    · subst e
      simp
    · rw [if_neg e, List.getElem?_eq_none (by simp; omega)]
      rfl
theorem kcol_set {r : Row} {x : Key} (h : 0 < r.length) (i : Nat) : kcol (r.set 0 x) i = if i = 0 then x else kcol r i := by
  unfold kcol
  rw [List.getD_eq_getElem?_getD, List.getD_eq_getElem?_getD]
  by_cases e : i = 0
  · subst e
    rw [if_pos rfl, List.getElem?_set_self h]
    rfl
  · rw [if_neg e, List.getElem?_set_ne (by omega)]
theorem pure_law_rows {K : PySem.W.Frag} : ∀ vs H Q E, sp_law_rows K vs H Q E → t_law_rows K E { nx := fun _ H' => Q .non H', rt := Q } (start N_law_rows vs) H := by
  intro vs H Q E h
  match vs, h with
  | [b, kv, m], h =>
    obtain ⟨a, l, ks, n, rfl, rfl, hn0, hn, B, ⟨kt, rfl, hkt⟩, gk, k⟩ := h
    obtain ⟨_, _, ha, hl, _⟩ := B.ex
    have g1 := gk.pos
    have g4 := gk.le
    refine ⟨sz0, fun f hf => ?_⟩
    have fa := (ne_of_none ha hf).symm
    have fl := (ne_of_none hl hf).symm
    refine ⟨_, rfl, a, l, _, rfl, rfl, by decide, by decide, B.same (Rs.Same.new hf), fun way H1 w0 w4 B1 k1 => ?_⟩
    refine ⟨_, rfl, _, rfl, _, _, rfl, rfl, a, l, _, rfl, rfl, by omega, by omega, B1, fun many H2 m0 m1 B2 k2 => ⟨_, rfl, by omega, by omega, ?_⟩⟩
    refine for_range (lo := 0) (n := many.toNat) (fun i σ H' => ∃ (rows : List Row) (x5 x6 : Option V), σ = [some (.ref a), some (.ref kt), some (.int n), some (.ref f), some (.int way), x5, x6, none] ∧ Lst RowAt H' f rows ∧ (∀ r ∈ rows, isRow ks r = true) ∧ rows.length = i ∧ Box H' a l ∧ But [a, l] H H') ?_ ?_ ?_
    · exact ⟨[], none, none, rfl, ⟨[], k2 _ _ (k1 _ _ upd_same (nn fa fl)) (nn fa fl), .nil⟩, by simp, rfl, B2, (But.same (Rs.Same.new hf)).trans (k1.trans k2)⟩
    · rintro i σ H' hi ⟨rows, x5, x6, rfl, ⟨fv, hf', hrows⟩, hall, hlen, B', k'⟩
      have flen := hrows.length
      -- the row: a comprehension
      have kt' : ∀ {H'' : Hp}, But [a, l] H H'' → H'' kt = some (.tup (ks.map V.str)) := fun kk => kk _ _ hkt (nn (ne_of hkt ha (by intro z; cases z)) (ne_of hkt hl (by intro z; cases z)))
      refine ⟨_, rfl, kt, rfl, ⟨_, SqT.of (kt' k')⟩, fun D hD => ?_⟩
      obtain ⟨_, _, ha', hl', _⟩ := B'.ex
      have Da := (ne_of_none ha' hD).symm
      have Dl := (ne_of_none hl' hD).symm
      have Df := (ne_of_none hf' hD).symm
      have hD0 : H D = none := none_of_but k' hD (nn Da Dl)
      refine lc_tup (K := K) (a := kt) (xs := ks.map V.str) (fun j H2 => ∃ r : Row, H2 D = some (.lst (r.map kV)) ∧ r.length = j ∧ (∀ c, c < j → isValue (ks.getD c "") (kcol r c) = true) ∧ Box H2 a l ∧ But [a, l] H' H2)
        ⟨[], upd_same, rfl, fun c h => absurd h (Nat.not_lt_zero _), B'.same (Rs.Same.new hD), But.same (Rs.Same.new hD)⟩ ?_ ?_ ?_
      · rintro j H2 _ ⟨r, _, _, _, _, k2⟩
        exact SqT.of (kt' (k'.trans k2))
      · rintro j v H2 hj ⟨r, hd, hrl, hrv, B2, k2⟩
        rw [List.getElem?_map] at hj
        obtain ⟨kd, hkd, rfl⟩ := Option.map_eq_some_iff.mp hj
        have hjl := (List.getElem?_eq_some_iff.mp hkd).1
        refine ⟨rfl, lc_yes ⟨_, rfl, _, rfl, a, l, kd, rfl, rfl, gk.all kd (List.mem_of_getElem? hkd), B2, fun x H3 hx B3 k3 => ?_⟩⟩
        have hd3 := k3 _ _ hd (nn Da Dl)
        refine ⟨_, hd3, szlt (by rw [List.length_map]; omega), r ++ [x], by rw [upd_same, List.map_append] <;> rfl, by simp [hrl], fun c hc => ?_, B3.keep (fun o e => up e Da.symm) (fun o e => up e Dl.symm), (k2.trans k3).mut hD⟩
        rw [kcol_append]
        by_cases e : c < r.length
        · rw [if_pos e]
          exact hrv c (by omega)
        · rw [if_neg e, if_pos (by omega)]
          have : c = j := by omega
          subst this
          rw [List.getD_eq_getElem?_getD, hkd]
          exact hx
      · rintro H2 ⟨r, hd, hrl, hrv, B2, k2⟩
        rw [List.length_map] at hrl hrv
        have hf2 := k2 _ _ hf' (nn fa fl)
        have goodr : isRow ks r = true := isRow_of hrl hrv
        have kk2 : But [a, l] H H2 := k'.trans k2
        have rows2 : Paired (RowAt H2) fv rows := Paired.tl RowAt.st (B'.tup k2) hrows
        -- told again, or not
        have again : ∀ (D : Addr) (r : Row) (H2 : Hp), H D = none → D ≠ a → D ≠ l → D ≠ f → H2 D = some (.lst (r.map kV)) → isRow ks r = true → Box H2 a l → But [a, l] H H2 → H2 f = some (.lst fv) → Paired (RowAt H2) fv rows →
            ((tSeq (tIfS (tAnd (tTest (tOp (xNeE K) (tVar 3) (tLst tNil))) (tAnd (tTest (tOpC xLt (tVar 4) (.int 2))) (tTest (tOpC rEq (tOpC (rIxT K) (tVar 1) (.int 0)) (.str "number"))))) (tAsg (tCB xMax2 (tConsC (.int (-999)) (tCons (tCB xMin2 (tConsC (.int 999) (tCons (tOp xAdd (tOpC (rIxT K) (tOpC (rIxL K) (tVar 3) (.int (-1))) (.int 0)) (tOp xMul (tOp (rIxL K) (tLst (tConsC (.int 1) (tConsC (.int (-1)) tNil))) (tVar 4)) (tCall (sp_law_take K) [] E (tCons (tVar 0) (tConsC (.int 3) tNil))))) tNil))) tNil))) (gSubC (tVar 6) (.int 0) rSetL)) tNext)
              (tDrop (tBM K "list" rAppend (tVar 3) (tCons (tCB (xTuple K) (tCons (tVar 6) tNil)) tNil)))) : TS)
            { nx := fun σ H' => ∃ (rows : List Row) (x5 x6 : Option V), σ = [some (.ref a), some (.ref kt), some (.int n), some (.ref f), some (.int way), x5, x6, none] ∧ Lst RowAt H' f rows ∧ (∀ r ∈ rows, isRow ks r = true) ∧ rows.length = i + 1 ∧ Box H' a l ∧ But [a, l] H H',
              ct := fun σ H' => ∃ (rows : List Row) (x5 x6 : Option V), σ = [some (.ref a), some (.ref kt), some (.int n), some (.ref f), some (.int way), x5, x6, none] ∧ Lst RowAt H' f rows ∧ (∀ r ∈ rows, isRow ks r = true) ∧ rows.length = i + 1 ∧ Box H' a l ∧ But [a, l] H H',
              bk := (tRet (tVar 3)) { nx := fun _ H' => Q .non H', rt := Q }, rt := Q }
            [some (.ref a), some (.ref kt), some (.int n), some (.ref f), some (.int way), some (.int (0 + (i : Int))), some (.ref D), none] H2 := by
          intro D r H2 hD0 Da Dl Df hd hr B2 k2 hf2 rows2
          -- the last: f.append(tuple(row))
          have last : ∀ (r : Row) (H3 : Hp), H3 D = some (.lst (r.map kV)) → isRow ks r = true → Box H3 a l → But [a, l] H H3 → H3 f = some (.lst fv) → Paired (RowAt H3) fv rows → (tDrop (tBM K "list" rAppend (tVar 3) (tCons (tCB (xTuple K) (tCons (tVar 6) tNil)) tNil)))
              { nx := fun σ H' => ∃ (rows : List Row) (x5 x6 : Option V), σ = [some (.ref a), some (.ref kt), some (.int n), some (.ref f), some (.int way), x5, x6, none] ∧ Lst RowAt H' f rows ∧ (∀ r ∈ rows, isRow ks r = true) ∧ rows.length = i + 1 ∧ Box H' a l ∧ But [a, l] H H',
                ct := fun σ H' => ∃ (rows : List Row) (x5 x6 : Option V), σ = [some (.ref a), some (.ref kt), some (.int n), some (.ref f), some (.int way), x5, x6, none] ∧ Lst RowAt H' f rows ∧ (∀ r ∈ rows, isRow ks r = true) ∧ rows.length = i + 1 ∧ Box H' a l ∧ But [a, l] H H',
                bk := (tRet (tVar 3)) { nx := fun _ H' => Q .non H', rt := Q }, rt := Q }
              [some (.ref a), some (.ref kt), some (.int n), some (.ref f), some (.int way), some (.int (0 + (i : Int))), some (.ref D), none] H3 := by
            intro r H3 hd hr B3 k3 hf3 rows3
            refine ⟨_, rfl, .inl ⟨rfl, _, SqL.of hf3⟩, _, rfl, _, _, rfl, .inl ⟨SqL.of hd, fun t ht => ⟨_, _, _, rfl, rfl, un hf3 ht, szlt (by omega), ?_⟩⟩⟩
            have t3 : TupLe H3 (upd (upd H3 t (.tup (r.map kV))) f (.lst (fv ++ [.ref t]))) := (TupLe.new ht).list (un hf3 ht)
            refine ⟨rows ++ [r], _, _, rfl, ⟨_, upd_same, P2.app (Paired.tl RowAt.st t3 rows3) (P2.one ⟨t, rfl, ?_⟩)⟩, fun x hx => ?_, by simp [hlen], (B3.same (Rs.Same.new ht)).keep (fun o e => up e fa.symm) (fun o e => up e fl.symm), (k3.new ht).mut hf⟩
            · rw [upd_ne (ne_of_none hf3 ht).symm]
              exact upd_same
            · rcases List.mem_append.mp hx with h | h
              · exact hall x h
              · rw [List.mem_singleton.mp h]
                exact hr
          -- the test
          refine ⟨_, rfl, sz0, fun p hp => neE hf2 hp (b := !fv.isEmpty) rfl ⟨_, rfl, ?_⟩⟩
          have B2' := B2.same (Rs.Same.new (o := .lst []) hp)
          have k2' := k2.new (o := .lst []) hp
          have hf2' : upd H2 p (.lst []) f = _ := un hf2 hp
          have hd' : upd H2 p (.lst []) D = _ := un hd hp
          have rows2' := Paired.tl RowAt.st (TupLe.new (o := .lst []) hp) rows2
          cases hfe : fv with
          | nil =>
            subst hfe
            exact last r _ hd' hr B2' k2' hf2' rows2'
          | cons f0 fr =>
            rw [← hfe]
            have en : (!fv.isEmpty) = true := by rw [hfe]; rfl
            rw [en]
            refine ⟨_, rfl, _, _, rfl, rfl, _, rfl, ?_⟩
            by_cases hw : way < 2
            · rw [decide_eq_true hw]
              have hk0 : (ks.map V.str)[0]? = some (V.str (ks[0]'(by omega))) := by rw [List.getElem?_map, List.getElem?_eq_getElem (by omega)] <;> rfl
              refine ⟨_, rfl, ixT ⟨kt, rfl, kt' k2'⟩ (j := 0) rfl hk0 ⟨rfl, _, rfl, ?_⟩⟩
              by_cases hnum : ks[0]'(by omega) = "number"
              · rw [hnum]
                have ed : decide (V.str "number" = V.str "number") = true := decide_eq_true rfl
                rw [ed]
                -- the row ahead
                obtain ⟨fl0, v, efv⟩ : ∃ (l : List V) (v : V), fv = l ++ [v] := ⟨fv.dropLast, fv.getLast (by rw [hfe]; simp), (List.dropLast_concat_getLast _).symm⟩
                obtain ⟨rl0, rv, erw⟩ : ∃ (l : List Row) (v : Row), rows = l ++ [v] := by
                  have hne : rows ≠ [] := by intro e; rw [e, hfe] at flen; simp at flen
                  exact ⟨rows.dropLast, rows.getLast hne, (List.dropLast_concat_getLast _).symm⟩
                have hvr : RowAt (upd H2 p (.lst [])) v rv := by
                  rw [efv, erw] at rows2'
                  exact P2.last rows2'
                have grv : isRow ks rv = true := hall rv (by rw [erw]; simp)
                have rvl := isRow_len grv
                have v0 := isRow_val grv (i := 0) (by omega)
                have ek : ks.getD 0 "" = "number" := by rw [List.getD_eq_getElem?_getD, List.getElem?_eq_getElem (by omega)]; exact hnum
                rw [ek] at v0
                obtain ⟨z, ez⟩ : ∃ z : Int, kcol rv 0 = .inl z := by
                  cases e : kcol rv 0 with
                  | inl z => exact ⟨z, rfl⟩
                  | inr s =>
                    rw [e] at v0
                    exact absurd v0 (by simp [isValue]; intro h; exact absurd h (by decide +kernel))
                have hf2'' : upd H2 p (.lst []) f = some (.lst (fl0 ++ [v])) := by rw [hf2', efv]
                refine ⟨_, rfl, ixLast hf2'' (ixT hvr (j := 0) rfl (by rw [List.getElem?_map, kcol_get (by omega), ez]; rfl) ?_)⟩
                refine ⟨szle (by show 2 ≤ 100000; decide), fun q hq => ⟨_, rfl, ?_⟩⟩
                have hix : ∃ s : Int, ([V.int 1, V.int (-1)] : List V)[way.toNat]? = some (.int s) ∧ (s = 1 ∨ s = -1) := by
                  rcases pick2 w0 hw with rfl | rfl
                  · exact ⟨1, rfl, .inl rfl⟩
                  · exact ⟨-1, rfl, .inr rfl⟩
                obtain ⟨s, hs, hs1⟩ := hix
                refine ixL upd_same (j := way.toNat) (by omega) hs ?_
                refine ⟨_, rfl, a, l, _, rfl, rfl, by decide, by decide, B2'.same (Rs.Same.new hq), fun g H3 g0 g1 B3 k3 => ?_⟩
                refine ⟨s, g, rfl, rfl, .inl ⟨by omega, by omega⟩, _, _, rfl, rfl, _, _, rfl, _, _, rfl, ?_⟩
                have hd3 := k3 _ _ (un hd' hq) (nn Da Dl)
                have hf3 := k3 _ _ (un hf2' hq) (nn fa fl)
                have rl := isRow_len hr
                refine ⟨_, rfl, _, _, _, 0, rfl, rfl, hd3, ixN_zero' (by rw [List.length_map]; omega), ?_⟩
                obtain ⟨zz, ezz, z1, z2⟩ : ∃ zz : Int, (if (if z + s * g < 999 then z + s * g else 999) > -999 then (if z + s * g < 999 then z + s * g else 999) else -999) = zz ∧ -999 ≤ zz ∧ zz ≤ 999 := by
                  refine ⟨_, rfl, ?_, ?_⟩ <;> split <;> (try split) <;> omega
                rw [ezz]
                have t3 : TupLe (upd H2 p (.lst [])) (upd H3 D (.lst ((r.map kV).set 0 (.int zz)))) := ((TupLe.new (o := .lst [.int 1, .int (-1)]) hq).trans ((B2'.same (Rs.Same.new hq)).tup k3)).list hd3
                refine last (r.set 0 (.inl zz)) _ (by rw [upd_same, List.map_set] <;> rfl) (isRow_of (by rw [List.length_set]; exact rl) fun c hc => ?_) (B3.keep (fun o e => up e Da.symm) (fun o e => up e Dl.symm)) ((k2'.trans ((But.same (Rs.Same.new hq)).trans k3)).mut hD0) (up hf3 Df.symm) (Paired.tl RowAt.st t3 rows2')
                rw [kcol_set (by omega)]
                by_cases ec : c = 0
                · subst ec
                  rw [if_pos rfl, ek]
                  simp [isValue, z1, z2]
                  decide +kernel
                · rw [if_neg ec]
                  exact isRow_val hr hc
              · have ed : decide (V.str (ks[0]'(by omega)) = V.str "number") = false := decide_eq_false fun e => hnum (by injection e)
                rw [ed]
                exact last r _ hd' hr B2' k2' hf2' rows2'
            · rw [decide_eq_false hw]
              exact last r _ hd' hr B2' k2' hf2' rows2'
        refine ⟨_, rfl, sz0, fun p hp => neE hf2 hp (b := !fv.isEmpty) rfl ⟨_, rfl, ?_⟩⟩
        have B2' := B2.same (Rs.Same.new (o := .lst []) hp)
        have k2' := kk2.new (o := .lst []) hp
        have hf2' : upd H2 p (.lst []) f = _ := un hf2 hp
        have hd' : upd H2 p (.lst []) D = _ := un hd hp
        have rows2' := Paired.tl RowAt.st (TupLe.new (o := .lst []) hp) rows2
        cases hfe : fv with
        | nil =>
          subst hfe
          exact again D r _ hD0 Da Dl Df hd' goodr B2' k2' hf2' rows2'
        | cons f0 fr =>
          rw [← hfe]
          have en : (!fv.isEmpty) = true := by rw [hfe]; rfl
          rw [en]
          refine ⟨_, rfl, a, l, _, rfl, rfl, by decide, by decide, B2', fun g H3 g0 g1 B3 k3 => ⟨rfl, _, rfl, ?_⟩⟩
          have hf3 := k3 _ _ hf2' (nn fa fl)
          have hd3 := k3 _ _ hd' (nn Da Dl)
          have rows3 := Paired.tl RowAt.st (B2'.tup k3) rows2'
          have fpos : 0 < fv.length := by rw [hfe]; simp
          by_cases hg : V.int g = .int 0
          · rw [decide_eq_true hg]
            refine ⟨_, rfl, _, rfl, _, rfl, _, _, rfl, .inl (SqL.of hf3), a, l, _, rfl, rfl, by omega, by omega, B3, fun g2 H4 g20 g21 B4 k4 => ?_⟩
            obtain ⟨j, rfl⟩ : ∃ j : Nat, g2 = (j : Int) := ⟨g2.toNat, by omega⟩
            have hf4 := k4 _ _ hf3 (nn fa fl)
            have rows4 := Paired.tl RowAt.st (B3.tup k4) rows3
            have hj : j < fv.length := by omega
            obtain ⟨rw_, hrw, ⟨tw, ew, htw⟩⟩ := P2.get rows4 (List.getElem?_eq_getElem hj)
            refine ixL hf4 (j := j) rfl (List.getElem?_eq_getElem hj) ?_
            rw [ew]
            refine ⟨_, _, rfl, .inr (SqT.of htw), fun d hd4 => ?_⟩
            have k04 : But [a, l] H H4 := k2'.trans (k3.trans k4)
            obtain ⟨_, _, ha4, hl4, _⟩ := B4.ex
            have da := (ne_of_none ha4 hd4).symm
            have dl := (ne_of_none hl4 hd4).symm
            exact again d rw_ _ (none_of_but k04 hd4 (nn da dl)) da dl (ne_of_none hf4 hd4).symm upd_same (hall _ (List.mem_of_getElem? hrw)) (B4.same (Rs.Same.new hd4)) (k04.new hd4) (un hf4 hd4) (Paired.tl RowAt.st (TupLe.new hd4) rows4)
          · rw [decide_eq_false hg]
            exact again D r _ hD0 Da Dl Df hd3 goodr B3 (k2'.trans k3) hf3 rows3
    · rintro σ H' ⟨rows, x5, x6, rfl, hf', hall, hlen, B', k'⟩
      exact ⟨_, rfl, k f rows H' hf hf' hall (by omega) B' k'⟩
end Rs

namespace Rs
open PySem PySem.Spec PyProof.Rows L2
abbrev N_need_kinds : List Str := ["kinds", "kind"]
abbrev P_need_kinds : List Str := ["kinds"]
def sp_need_kinds (K : PySem.W.Frag) : Sp := fun vs H Q E => match vs with
  | [kv] => ∃ ks, KindsAt H kv ks ∧ GoodKinds ks ∧ ∀ H', Same H H' → Q .non H'
  | _ => False
def t_need_kinds (K : PySem.W.Frag) (E : XK) : TS := (tIfS (tOr (tNot (tTest (tChain xLe xLe (tC (.int 1)) (tCB1 (xLen K) (tVar 0)) (tC (.int 4))))) (tTest (tOp (xNeE K) (tLc (iTup K (tVar 0)) (gName 1) (tTest (tOp (rIn K true) (tVar 1) (tTup (tConsC (.str "number") (tConsC (.str "word") tNil))))) (tVar 1) [1]) (tLst tNil)))) tNever tNext)
theorem in_two {x s t : Str} : inV (.str x) [.str s, .str t] = (decide (s = x) || decide (t = x)) := by
  unfold inV
  show (eqV (.str s) (.str x) || (eqV (.str t) (.str x) || false)) = _
  rw [Bool.or_false]
  have e : ∀ a b : Str, eqV (.str a) (.str b) = decide (a = b) := fun a b => rfl
  rw [e, e]
theorem pure_need_kinds {K : PySem.W.Frag} : ∀ vs H Q E, sp_need_kinds K vs H Q E → t_need_kinds K E { nx := fun _ H' => Q .non H', rt := Q } (start N_need_kinds vs) H := by
  intro vs H Q E h
  match vs, h with
  | [kv], h =>
    obtain ⟨ks, ⟨kt, rfl, hkt⟩, gk, k⟩ := h
    have g1 := gk.pos
    have g4 := gk.le
    refine ⟨_, rfl, _, _, rfl, .inr (SqT.of hkt), _, _, rfl, rfl, _, rfl, ?_⟩
    rw [List.length_map, decide_eq_true (show (1 : Int) ≤ (ks.length : Int) by omega)]
    refine ⟨_, _, rfl, rfl, _, rfl, ?_⟩
    rw [decide_eq_true (show (ks.length : Int) ≤ 4 by omega)]
    refine ⟨_, rfl, kt, rfl, ⟨_, SqT.of hkt⟩, fun D hD => ?_⟩
    refine lc_tup (K := K) (a := kt) (xs := ks.map V.str) (fun j H2 => H2 D = some (.lst []) ∧ Same H H2) ⟨upd_same, Rs.Same.new hD⟩ ?_ ?_ ?_
    · rintro j H2 _ ⟨_, s⟩
      exact SqT.of (s _ _ hkt)
    · rintro j v H2 hj ⟨hd, s⟩
      rw [List.getElem?_map] at hj
      obtain ⟨kd, hkd, rfl⟩ := Option.map_eq_some_iff.mp hj
      refine ⟨rfl, _, rfl, szle (by show 2 ≤ 100000; decide), fun p hp => ⟨p, _, rfl, .inr (SqT.of upd_same), rfl, rfl, _, rfl, ?_⟩⟩
      have e : inV (.str kd) [.str "number", .str "word"] = true := by
        rw [in_two]
        rcases gk.all kd (List.mem_of_getElem? hkd) with rfl | rfl
        · rw [decide_eq_true rfl]; rfl
        · rw [decide_eq_true (p := ("word" : Str) = "word") rfl, Bool.or_true]
      rw [e]
      exact ⟨un hd hp, s.trans (Rs.Same.new hp)⟩
    · rintro H2 ⟨hd, s⟩
      refine ⟨sz0, fun p hp => neE hd hp (b := false) rfl ⟨_, rfl, ?_⟩⟩
      exact k _ (s.trans (Rs.Same.new hp))
abbrev N_is_turn : List Str := ["kinds", "turn"]
abbrev P_is_turn : List Str := ["kinds", "turn"]
def sp_is_turn (K : PySem.W.Frag) : Sp := fun vs H Q E => match vs with
  | [kv, tv] => ∃ (ks : List Str) (t : Nat × Bool), KindsAt H kv ks ∧ TurnAt H tv t ∧ t.1 < ks.length ∧ ∀ H', Same H H' → Q (.bl true) H'
  | _ => False
def t_is_turn (K : PySem.W.Frag) (E : XK) : TS := (tRet (tAndV (tOpC rEq (tCB1 (xLen K) (tVar 1)) (.int 2)) (tAndV (tChain xLe xLt (tC (.int 0)) (tOpC (rIxT K) (tVar 1) (.int 0)) (tCB1 (xLen K) (tVar 0))) (tOp (rIn K false) (tOpC (rIxT K) (tVar 1) (.int 1)) (tTup (tConsC (.str "up") (tConsC (.str "down") tNil)))))))
theorem pure_is_turn {K : PySem.W.Frag} : ∀ vs H Q E, sp_is_turn K vs H Q E → t_is_turn K E { nx := fun _ H' => Q .non H', rt := Q } (start N_is_turn vs) H := by
  intro vs H Q E h
  match vs, h with
  | [kv, tv], h =>
    obtain ⟨ks, t, ⟨kt, rfl, hkt⟩, ⟨ta, rfl, hta⟩, hlt, k⟩ := h
    refine ⟨_, rfl, _, _, rfl, .inr (SqT.of hta), rfl, _, rfl, ?_⟩
    have e1 : decide (V.int ((([V.int (t.1 : Int), V.str (wayS t.2)] : List V).length : Nat) : Int) = V.int 2) = true := decide_eq_true rfl
    rw [e1]
    refine ⟨_, rfl, ixT ⟨ta, rfl, hta⟩ (j := 0) rfl rfl ⟨_, _, rfl, rfl, _, rfl, ?_⟩⟩
    rw [decide_eq_true (show (0 : Int) ≤ (t.1 : Int) by omega)]
    refine ⟨_, rfl, _, _, rfl, .inr (SqT.of hkt), _, _, rfl, rfl, _, rfl, ?_⟩
    rw [List.length_map, decide_eq_true (show (t.1 : Int) < (ks.length : Int) by omega)]
    refine ⟨_, rfl, ixT ⟨ta, rfl, hta⟩ (j := 1) rfl rfl ⟨szle (by show 2 ≤ 100000; decide), fun p hp => ⟨p, _, rfl, .inr (SqT.of upd_same), rfl, rfl, ?_⟩⟩⟩
    have e : inV (.str (wayS t.2)) [.str "up", .str "down"] = true := by
      rw [in_two]
      cases t.2
      · rw [decide_eq_true (p := ("down" : Str) = wayS false) rfl, Bool.or_true]
      · rw [decide_eq_true (p := ("up" : Str) = wayS true) rfl]; rfl
    show Q (.bl (inV (.str (wayS t.2)) [.str "up", .str "down"])) _
    rw [e]
    exact k _ (Rs.Same.new hp)
abbrev N_need_order : List Str := ["kinds", "order", "good", "turn"]
abbrev P_need_order : List Str := ["kinds", "order"]
def sp_need_order (K : PySem.W.Frag) : Sp := fun vs H Q E => match vs with
  | [kv, ov] => ∃ ks o, KindsAt H kv ks ∧ LstV TurnAt H ov o ∧ GoodOrd ks o ∧ o.length ≤ 1000 ∧ ∀ H', Same H H' → Q .non H'
  | _ => False
def t_need_order (K : PySem.W.Frag) (E : XK) : TS := (tSeq (tAsg (tLc (iList K (tVar 1)) (gName 3) (tB (tCall (sp_is_turn K) [] E0 (tCons (tVar 0) (tCons (tVar 3) tNil)))) (tVar 3) [3]) (gName 2))
  (tIfS (tOr (tTest (tOpC rEq (tCB1 (xLen K) (tVar 2)) (.int 0))) (tOr (tTest (tOp rNe (tCB1 (xLen K) (tVar 2)) (tCB1 (xLen K) (tVar 1)))) (tTest (tOp rNe (tLenSetX K (tLc (iList K (tVar 2)) (gName 3) tYes (tOpC (rIxT K) (tVar 3) (.int 0)) [3])) (tCB1 (xLen K) (tVar 2)))))) tNever tNext))
theorem nodup_cast : ∀ {l : List Nat}, l.Nodup → (l.map fun (n : Nat) => (n : Int)).Nodup
  | [], _ => by simp
  | a :: l, h => by
    rw [List.map_cons, List.nodup_cons]
    obtain ⟨h1, h2⟩ := List.nodup_cons.mp h
    refine ⟨fun hm => ?_, nodup_cast h2⟩
    obtain ⟨b, hb, e⟩ := List.mem_map.mp hm
    exact h1 (by have : b = a := by omega
                 rw [← this]; exact hb)
theorem pure_need_order {K : PySem.W.Frag} : ∀ vs H Q E, sp_need_order K vs H Q E → t_need_order K E { nx := fun _ H' => Q .non H', rt := Q } (start N_need_order vs) H := by
  intro vs H Q E h
  match vs, h with
  | [kv, ov], h =>
    obtain ⟨ks, o, hk, ⟨lo, rfl, ov, hlo, hts⟩, go, hlen, k⟩ := h
    have hl := hts.length
    refine ⟨_, rfl, lo, rfl, ⟨_, SqL.of hlo⟩, fun D hD => ?_⟩
    refine lc_list (K := K) (a := lo) (xs := ov) (fun j H2 => H2 D = some (.lst (ov.take j)) ∧ Same H H2) ⟨upd_same, Rs.Same.new hD⟩ ?_ ?_ ?_
    · rintro j H2 _ ⟨_, s⟩
      exact SqL.of (s _ _ hlo)
    · rintro j v H2 hj ⟨hd, s⟩
      obtain ⟨t, ht, hta⟩ := P2.get hts hj
      have st := TupLe.same s
      refine ⟨rfl, _, rfl, _, rfl, ks, t, hk.mono st, hta.mono st, go.col t (List.mem_of_getElem? ht), fun H3 s3 => ⟨_, rfl, ?_⟩⟩
      refine ⟨_, rfl, _, s3 _ _ hd, szlt (by rw [List.length_take]; omega), ?_, Rs.Same.mut (s.trans s3) hD⟩
      rw [upd_same, List.take_succ, hj] <;> rfl
    · rintro H2 ⟨hd, s⟩
      rw [List.take_of_length_le (Nat.le_refl _)] at hd
      have hpos : 0 < ov.length := by
        rw [hl]
        cases o with
        | nil => exact absurd rfl go.ne
        | cons t o => simp
      refine ⟨_, rfl, _, _, rfl, .inl (SqL.of hd), rfl, _, rfl, ?_⟩
      have e0 : decide (V.int (ov.length : Int) = V.int 0) = false := decide_eq_false fun e => by injection e with e; omega
      rw [e0]
      refine ⟨_, rfl, _, _, rfl, .inl (SqL.of hd), _, rfl, _, _, rfl, .inl (SqL.of (s _ _ hlo)), rfl, _, rfl, ?_⟩
      have e1 : (!decide (V.int (ov.length : Int) = V.int (ov.length : Int))) = false := by simp
      rw [e1]
      refine ⟨_, rfl, D, rfl, ⟨_, SqL.of hd⟩, fun D2 hD2 => ?_⟩
      refine lc_list (K := K) (a := D) (xs := ov) (fun j H3 => H3 D2 = some (.lst (((o.map (·.1)).take j).map fun (n : Nat) => V.int (n : Int))) ∧ Same H2 H3) ⟨by rw [upd_same] <;> rfl, Rs.Same.new hD2⟩ ?_ ?_ ?_
      · rintro j H3 _ ⟨_, s3⟩
        exact SqL.of (s3 _ _ hd)
      · rintro j v H3 hj ⟨hd2, s3⟩
        obtain ⟨t, ht, hta⟩ := P2.get hts hj
        have st := TupLe.same (s.trans s3)
        refine ⟨rfl, lc_yes ⟨_, rfl, ixT (hta.mono st) (j := 0) rfl rfl ?_⟩⟩
        refine ⟨_, hd2, szlt (by rw [List.length_map, List.length_take, List.length_map]; omega), ?_, Rs.Same.mut s3 hD2⟩
        rw [upd_same, List.take_succ, List.getElem?_map, ht, List.map_append] <;> rfl
      · rintro H3 ⟨hd2, s3⟩
        rw [List.take_of_length_le (by rw [List.length_map]; omega)] at hd2
        have em : (o.map (·.1)).map (fun (n : Nat) => V.int (n : Int)) = ((o.map (·.1)).map fun (n : Nat) => (n : Int)).map V.int := by rw [List.map_map (f := fun (n : Nat) => (n : Int))] <;> rfl
        rw [em] at hd2
        refine ⟨D2, _, rfl, SqL.of hd2, by rw [List.length_map, List.length_map]; omega, _, rfl, _, _, rfl, .inl (SqL.of (s3 _ _ hd)), rfl, _, rfl, ?_⟩
        have e2 : (!decide (V.int ((dcount ((o.map (·.1)).map fun (n : Nat) => (n : Int)) : Nat) : Int) = V.int (ov.length : Int))) = false := by
          rw [dcount_nodup (nodup_cast go.nd), List.length_map, List.length_map, hl]
          simp
        rw [e2]
        exact k _ (s.trans s3)
abbrev N_is_value : List Str := ["kind", "value", "sign"]
abbrev P_is_value : List Str := ["kind", "value"]
def sp_is_value (K : PySem.W.Frag) : Sp := fun vs H Q E => match vs with
  | [kv, xv] => ∃ (kd : Str) (x : Key), kv = .str kd ∧ xv = kV x ∧ (∀ s, x = .inr s → s.length ≤ 1000) ∧ ∀ H', Same H H' → Q (.bl (isValue kd x)) H'
  | _ => False
def t_is_value (K : PySem.W.Frag) (E : XK) : TS := (tSeq (tIfS (tTest (tOpC rEq (tVar 0) (.str "word"))) 
    (tSeq (tIfS (tOr (tNot (tB (tIsi K "str" (tVar 1)))) (tTest (tOpC xGt (tCB1 xLenS (tVar 1)) (.int 6)))) (tRet (tC (.bl false))) tNext)
    (tRet (tOp (xEqE K) (tLc (iStr (tVar 1)) (gName 2) (tTest (tOpC rNotInS (tVar 2) (.str "abcdefghijklmnopqrstuvwxyz"))) (tVar 2) [2]) (tLst tNil)))) tNext)
  (tRet (tAndV (tIsi K "int" (tVar 1)) (tAndV (tNotV (tIsi K "bool" (tVar 1))) (tChain xLe xLe (tOpC xSub (tC (.int 0)) (.int 999)) (tVar 1) (tC (.int 999)))))))
theorem filter_nil_all {α : Type} (p : α → Bool) : ∀ l : List α, (l.filter fun x => !p x).isEmpty = l.all p
  | [] => rfl
  | a :: l => by
    rw [List.filter_cons, List.all_cons]
    cases p a
    · rfl
    · simpa using filter_nil_all p l
theorem pure_is_value {K : PySem.W.Frag} : ∀ vs H Q E, sp_is_value K vs H Q E → t_is_value K E { nx := fun _ H' => Q .non H', rt := Q } (start N_is_value vs) H := by
  intro vs H Q E h
  match vs, h with
  | [kv, xv], h =>
    obtain ⟨kd, x, rfl, rfl, hsz, k⟩ := h
    refine ⟨_, rfl, rfl, _, rfl, ?_⟩
    by_cases hw : V.str kd = V.str "word"
    · rw [decide_eq_true hw]
      have ekd : kd = "word" := by injection hw
      cases x with
      | inl i =>
        refine ⟨_, rfl, isi_go (t := "int") (b := false) (.base (.int i)) (by decide +kernel) ⟨_, rfl, ?_⟩⟩
        have e : isValue kd (.inl i) = false := by simp [isValue, ekd]
        rw [e] at k
        exact k _ (Same.refl H)
      | inr s =>
        refine ⟨_, rfl, isi_go (t := "str") (b := true) (.base (.str s)) (by decide +kernel) ⟨_, rfl, ?_⟩⟩
        refine ⟨_, rfl, s, rfl, szle (by have := hsz s rfl; omega), _, _, rfl, rfl, _, rfl, ?_⟩
        by_cases hl : (6 : Int) < (s.length : Int)
        · rw [decide_eq_true hl]
          have e : isValue kd (.inr s) = false := by simp [isValue]; intro _ h6; omega
          rw [e] at k
          exact k _ (Same.refl H)
        · rw [decide_eq_false hl]
          refine ⟨_, rfl, s, rfl, fun D hD => ?_⟩
          refine lc_it (walk_str (z := s)) (fun j H2 => H2 D = some (.lst (((s.cps.toList.take j).filter fun c => !decide (c ∈ letters)).map fun c => V.str ⟨#[c]⟩)) ∧ Same H H2) ⟨upd_same, Rs.Same.new hD⟩ (fun _ _ _ _ => trivial) ?_ ?_
          · rintro j x H1 H2 hj ⟨hd, s1⟩ ⟨rfl, c, hc, rfl⟩
            have hc' : s.cps.toList[j]? = some c := by simpa using hc
            have hlen : s.cps.size ≤ 6 := by have : s.length = s.cps.size := rfl; omega
            refine ⟨rfl, _, rfl, c, _, rfl, rfl, _, rfl, ?_⟩
            have el : ("abcdefghijklmnopqrstuvwxyz" : Str).cps.toList = letters := rfl
            rw [el]
            by_cases hm : c ∈ letters
            · rw [decide_eq_true hm]
              refine ⟨?_, s1⟩
              rw [hd, List.take_succ, hc', List.filter_append]
              simp [hm]
            · rw [decide_eq_false hm]
              refine ⟨_, rfl, _, hd, szlt (by rw [List.length_map]; have := List.length_filter_le (fun c => !decide (c ∈ letters)) (s.cps.toList.take j); rw [List.length_take] at this; omega), ?_, Rs.Same.mut s1 hD⟩
              rw [upd_same, List.take_succ, hc', List.filter_append]
              simp [hm]
          · rintro H2 ⟨hd, s1⟩
            rw [List.take_of_length_le (by simp)] at hd
            refine ⟨sz0, fun p hp => ?_⟩
            refine eqE hd hp (b := isValue kd (.inr s)) ?_ (k _ (s1.trans (Rs.Same.new hp)))
            have h6 : s.length ≤ 6 := by omega
            simp only [isValue, ekd, h6, decide_true, Bool.true_and]
            rw [List.isEmpty_map, filter_nil_all]
    · rw [decide_eq_false hw]
      have ekd : kd ≠ "word" := fun e => hw (by rw [e])
      cases x with
      | inl i =>
        refine ⟨_, rfl, isi_go (t := "int") (b := true) (.base (.int i)) (by decide +kernel) ⟨_, rfl, ?_⟩⟩
        refine ⟨_, rfl, isi_go (t := "int") (b := false) (.base (.int i)) (by decide +kernel) ⟨_, rfl, _, rfl, ?_⟩⟩
        refine ⟨_, _, rfl, rfl, _, rfl, _, _, rfl, rfl, _, rfl, ?_⟩
        have hk : isValue kd (.inl i) = (decide ((0 : Int) - 999 ≤ i) && decide (i ≤ 999)) := by
          simp only [isValue, ne_eq, ekd, not_false_eq_true, decide_true, Bool.true_and]
          rfl
        rw [hk] at k
        by_cases h1 : (0 : Int) - 999 ≤ i
        · rw [decide_eq_true h1] at k ⊢
          refine ⟨_, _, rfl, rfl, k _ (Same.refl H)⟩
        · rw [decide_eq_false h1] at k ⊢
          exact k _ (Same.refl H)
      | inr s =>
        refine ⟨_, rfl, isi_go (t := "str") (b := false) (.base (.str s)) (by decide +kernel) ⟨_, rfl, ?_⟩⟩
        have e : isValue kd (.inr s) = false := by simp [isValue, ekd]
        rw [e] at k
        exact k _ (Same.refl H)
abbrev N_is_row : List Str := ["kinds", "row", "k"]
abbrev P_is_row : List Str := ["kinds", "row"]
def RowSz (r : Row) : Prop := r.length ≤ 1000 ∧ ∀ s, Sum.inr s ∈ r → s.length ≤ 1000
theorem RowSz.of {ks : List Str} {r : Row} (h : isRow ks r = true) (hk : ks.length ≤ 4) : RowSz r := by
  refine ⟨by rw [isRow_len h]; omega, fun s hs => ?_⟩
  obtain ⟨i, hi, e⟩ := List.mem_iff_getElem.mp hs
  have v := isRow_val h (i := i) (by rw [← isRow_len h]; exact hi)
  have ek : kcol r i = .inr s := by
    unfold kcol
    rw [List.getD_eq_getElem?_getD, List.getElem?_eq_getElem hi, e]
    rfl
  rw [ek] at v
  simp only [isValue, Bool.and_eq_true, decide_eq_true_eq] at v
  omega
def sp_is_row (K : PySem.W.Frag) : Sp := fun vs H Q E => match vs with
  | [kv, rv] => ∃ (ks : List Str) (r : Row), KindsAt H kv ks ∧ RowAt H rv r ∧ RowSz r ∧ ks.length ≤ 1000 ∧ ∀ H', Same H H' → Q (.bl (isRow ks r)) H'
  | _ => False
def t_is_row (K : PySem.W.Frag) (E : XK) : TS := (tSeq (tIfS (tTest (tOp rNe (tCB1 (xLen K) (tVar 1)) (tCB1 (xLen K) (tVar 0)))) (tRet (tC (.bl false))) tNext)
  (tRet (tOp (xEqE K) (tLc (iRng1 (tCons (tCB1 (xLen K) (tVar 0)) tNil)) (gName 2) (tNot (tB (tCall (sp_is_value K) [] E0 (tCons (tOp (rIxT K) (tVar 0) (tVar 2)) (tCons (tOp (rIxT K) (tVar 1) (tVar 2)) tNil))))) (tVar 2) [2]) (tLst tNil))))
theorem pure_is_row {K : PySem.W.Frag} : ∀ vs H Q E, sp_is_row K vs H Q E → t_is_row K E { nx := fun _ H' => Q .non H', rt := Q } (start N_is_row vs) H := by
  intro vs H Q E h
  match vs, h with
  | [kv, rv], h =>
    obtain ⟨ks, r, ⟨kt, rfl, hkt⟩, ⟨rt, rfl, hrt⟩, hsz, hkl, k⟩ := h
    refine ⟨_, rfl, _, _, rfl, .inr (SqT.of hrt), _, rfl, _, _, rfl, .inr (SqT.of hkt), rfl, _, rfl, ?_⟩
    by_cases hl : r.length = ks.length
    · have e1 : (!decide (V.int (((r.map kV).length : Nat) : Int) = V.int (((ks.map V.str).length : Nat) : Int))) = false := by
        rw [List.length_map, List.length_map, hl]; simp
      rw [e1]
      refine ⟨_, rfl, _, _, rfl, .inr (SqT.of hkt), _, rfl, by omega, by rw [List.length_map]; omega, fun D hD => ?_⟩
      refine lc_range (lo := 0) (n := (((ks.map V.str).length : Nat) : Int).toNat) (fun j H2 => H2 D = some (.lst (((List.range j).filter fun i => !isValue (ks.getD i "") (kcol r i)).map fun (i : Nat) => V.int (i : Int))) ∧ Same H H2) ⟨upd_same, Rs.Same.new hD⟩ ?_ ?_
      · rintro j H2 hj ⟨hd, s⟩
        rw [List.length_map] at hj
        have hjk : j < ks.length := by omega
        have z : (0 + (j : Int)) = (j : Int) := by omega
        refine ⟨rfl, _, rfl, _, rfl, _, _, _, _, rfl, rfl, SqT.of (s _ _ hkt), at_of (j := j) z (by rw [List.getElem?_map, List.getElem?_eq_getElem hjk]; rfl), _, rfl, _, rfl, _, _, _, _, rfl, rfl, SqT.of (s _ _ hrt), at_of (j := j) z (by rw [List.getElem?_map, kcol_get (by omega)]; rfl), _, _, rfl, rfl, fun st hst => ?_, fun H3 s3 => ⟨_, rfl, ?_⟩⟩
        · refine hsz.2 st ?_
          rw [← hst]
          exact List.mem_of_getElem? (kcol_get (by omega))
        have eg : ks[j] = ks.getD j "" := by rw [List.getD_eq_getElem?_getD, List.getElem?_eq_getElem hjk]; rfl
        rw [eg]
        have hd3 := s3 _ _ hd
        have lf : ((List.range j).filter fun i => !isValue (ks.getD i "") (kcol r i)).length ≤ j := by
          have := List.length_filter_le (fun i => !isValue (ks.getD i "") (kcol r i)) (List.range j)
          rw [List.length_range] at this
          exact this
        cases hv : isValue (ks.getD j "") (kcol r j) with
        | true =>
          refine ⟨?_, s.trans s3⟩
          have ef : ([j].filter fun i => !isValue (ks.getD i "") (kcol r i)) = [] := by rw [List.filter_cons, hv] <;> rfl
          rw [hd3, List.range_succ, List.filter_append, ef, List.append_nil]
        | false =>
          refine ⟨_, rfl, _, hd3, szlt (by rw [List.length_map]; omega), ?_, Rs.Same.mut (s.trans s3) hD⟩
          have ef : ([j].filter fun i => !isValue (ks.getD i "") (kcol r i)) = [j] := by rw [List.filter_cons, hv] <;> rfl
          rw [upd_same, List.range_succ, List.filter_append, z, ef, List.map_append] <;> rfl
      · rintro H2 ⟨hd, s⟩
        have en : (((ks.map V.str).length : Nat) : Int).toNat = ks.length := by rw [List.length_map]; omega
        rw [en] at hd
        refine ⟨sz0, fun p hp => eqE hd hp (b := isRow ks r) ?_ (k _ (s.trans (Rs.Same.new hp)))⟩
        rw [List.isEmpty_map, filter_nil_all]
        unfold isRow
        rw [decide_eq_true hl, Bool.true_and]
    · have e1 : (!decide (V.int (((r.map kV).length : Nat) : Int) = V.int (((ks.map V.str).length : Nat) : Int))) = true := by
        rw [List.length_map, List.length_map]
        rw [decide_eq_false fun e => hl (by injection e with e; omega)]
        rfl
      rw [e1]
      have e : isRow ks r = false := by unfold isRow; rw [decide_eq_false hl]; rfl
      rw [e] at k
      exact k _ (Same.refl H)
def mrg (o : Ord) : List Pr → List Pr → List Pr
  | xs, [] => xs
  | xs, y :: ys => (xs.takeWhile fun x => before o x y) ++ y :: mrg o (xs.dropWhile fun x => before o x y) ys
theorem cut_from {xs : List V} {n : Nat} (h : n ≤ xs.length) : cutV xs (some (n : Int)) none = xs.drop n := by
  unfold cutV
  rw [HT.sIx_nat, HT.sIx_none, Nat.min_eq_left h]
  exact List.take_of_length_le (by rw [List.length_drop]; exact Nat.le_refl _)
theorem cut_to {xs : List V} {n : Nat} (h : n ≤ xs.length) : cutV xs none (some (n : Int)) = xs.take n := by
  unfold cutV
  rw [HT.sIx_nat, HT.sIx_none, Nat.min_eq_left h, List.drop_zero]
  rfl
end Rs

namespace Rs
open PySem PySem.Spec PyProof.Rows L2
theorem mrg_nil (o : Ord) (xs : List Pr) : mrg o xs [] = xs := by unfold mrg; rfl
theorem mrg_cons (o : Ord) (xs : List Pr) (y : Pr) (ys : List Pr) : mrg o xs (y :: ys) = (xs.takeWhile fun x => before o x y) ++ y :: mrg o (xs.dropWhile fun x => before o x y) ys := rfl
theorem mrg_perm (o : Ord) : ∀ (ys xs : List Pr), (mrg o xs ys).Perm (xs ++ ys)
  | [], xs => by rw [mrg_nil, List.append_nil]
  | y :: ys, xs => by
    rw [mrg_cons]
    have ih := mrg_perm o ys (xs.dropWhile fun x => before o x y)
    have e : xs ++ y :: ys = (xs.takeWhile fun x => before o x y) ++ ((xs.dropWhile fun x => before o x y) ++ y :: ys) := by
      rw [← List.append_assoc, List.takeWhile_append_dropWhile]
    rw [e]
    refine List.Perm.append_left _ ?_
    exact (ih.cons y).trans List.perm_middle.symm
theorem Fine.left {ks : List Str} {xs ys : List Pr} (h : Fine ks (xs ++ ys)) : Fine ks xs := h.sub (List.sublist_append_left _ _)
theorem Fine.right {ks : List Str} {xs ys : List Pr} (h : Fine ks (xs ++ ys)) : Fine ks ys := h.sub (List.sublist_append_right _ _)
theorem nodup_ne {xs ys : List Pr} (h : ((xs ++ ys).map (·.1)).Nodup) {x y : Pr} (hx : x ∈ xs) (hy : y ∈ ys) : x.1 ≠ y.1 := by
  rw [List.map_append] at h
  intro e
  exact (List.nodup_append.mp h).2.2 _ (List.mem_map_of_mem hx) _ (List.mem_map_of_mem hy) e
theorem after_of {ks : List Str} {o : Ord} (ho : ∀ t ∈ o, t.1 < ks.length) {x y : Pr} (hx : isRow ks x.2 = true) (hy : isRow ks y.2 = true) (n : x.1 ≠ y.1) (h : before o x y = false) : before o y x = true := by
  rw [before_tot o (cmp_of ho hx hy) n, h]
  rfl
theorem mem_tw {p : Pr → Bool} : ∀ {xs : List Pr} {x : Pr}, x ∈ xs.takeWhile p → p x = true
  | [], _, h => by simp at h
  | a :: xs, x, h => by
    rw [List.takeWhile_cons] at h
    cases ha : p a with
    | true =>
      rw [ha] at h
      rcases List.mem_cons.mp h with e | e
      · rw [e]; exact ha
      · exact mem_tw e
    | false =>
      rw [ha] at h
      simp at h
theorem mrg_up {ks : List Str} {o : Ord} (ho : ∀ t ∈ o, t.1 < ks.length) : ∀ (ys xs : List Pr), Fine ks (xs ++ ys) → Up o xs → Up o ys → Up o (mrg o xs ys)
  | [], xs, _, a, _ => by rw [mrg_nil]; exact a
  | y :: ys, xs, f, a, b => by
    rw [mrg_cons]
    have hsplit : (xs.takeWhile fun x => before o x y) ++ (xs.dropWhile fun x => before o x y) = xs := List.takeWhile_append_dropWhile
    have rx : ∀ x ∈ xs, isRow ks x.2 = true := fun x hx => f.row x (List.mem_append_left _ hx)
    have ry : ∀ z ∈ y :: ys, isRow ks z.2 = true := fun z hz => f.row z (List.mem_append_right _ hz)
    have cm : ∀ p q : Pr, isRow ks p.2 = true → isRow ks q.2 = true → Cmp o p.2 q.2 := fun p q hp hq => cmp_of ho hp hq
    have fd : Fine ks ((xs.dropWhile fun x => before o x y) ++ ys) := f.sub (List.Sublist.append (List.dropWhile_sublist _) (List.sublist_cons_self _ _))
    have ad : Up o (xs.dropWhile fun x => before o x y) := List.Pairwise.sublist (List.dropWhile_sublist _) a
    have at_ : Up o (xs.takeWhile fun x => before o x y) := List.Pairwise.sublist (List.takeWhile_sublist _) a
    have ih := mrg_up ho ys (xs.dropWhile fun x => before o x y) fd ad (List.Pairwise.of_cons b)
    have pm := mrg_perm o ys (xs.dropWhile fun x => before o x y)
    -- y is ahead of what is left of xs
    have yd : ∀ z ∈ xs.dropWhile fun x => before o x y, before o y z = true := by
      intro z hz
      cases hd : xs.dropWhile fun x => before o x y with
      | nil => rw [hd] at hz; simp at hz
      | cons x0 r =>
        have h0 : before o x0 y = false := by
          have := List.head_dropWhile_not (fun x => before o x y) (l := xs) (by rw [hd]; simp)
          simpa [hd] using this
        have x0x : x0 ∈ xs := (List.dropWhile_sublist _).subset (by rw [hd]; exact List.mem_cons_self ..)
        have n0 : x0.1 ≠ y.1 := nodup_ne f.nd x0x (List.mem_cons_self ..)
        have b0 := after_of ho (rx x0 x0x) (ry y (List.mem_cons_self ..)) n0 h0
        rw [hd] at hz ad
        rcases List.mem_cons.mp hz with e | e
        · rw [e]; exact b0
        · have zx : z ∈ xs := (List.dropWhile_sublist _).subset (by rw [hd]; exact List.mem_cons_of_mem _ e)
          exact before_trans o (cm y x0 (ry y (List.mem_cons_self ..)) (rx x0 x0x)) (cm x0 z (rx x0 x0x) (rx z zx)) b0 (List.rel_of_pairwise_cons ad e)
    have yall : ∀ z ∈ mrg o (xs.dropWhile fun x => before o x y) ys, before o y z = true := fun z hz => by
      rcases List.mem_append.mp (pm.mem_iff.mp hz) with h | h
      · exact yd z h
      · exact List.rel_of_pairwise_cons b h
    refine List.pairwise_append.mpr ⟨at_, List.pairwise_cons.mpr ⟨yall, ih⟩, fun x hx z hz => ?_⟩
    have hxy : before o x y = true := mem_tw (p := fun x => before o x y) hx
    have xx : x ∈ xs := (List.takeWhile_sublist _).subset hx
    rcases List.mem_cons.mp hz with e | e
    · rw [e]; exact hxy
    · have hzr : isRow ks z.2 = true := by
        rcases List.mem_append.mp (pm.mem_iff.mp e) with h | h
        · exact rx z ((List.dropWhile_sublist _).subset h)
        · exact ry z (List.mem_cons_of_mem _ h)
      exact before_trans o (cm x y (rx x xx) (ry y (List.mem_cons_self ..))) (cm y z (ry y (List.mem_cons_self ..)) hzr) hxy (yall z e)
theorem put_up {ks : List Str} {o : Ord} (ho : ∀ t ∈ o, t.1 < ks.length) {ys : List Pr} {p : Pr} {n : Nat} (f : Fine ks (p :: ys)) (a : Up o ys) (h1 : ∀ i y, i < n → ys[i]? = some y → before o p y = false) (h2 : ∀ i y, n ≤ i → ys[i]? = some y → before o p y = true) :
    Up o (ys.take n ++ [p] ++ ys.drop n) := by
  have rp : isRow ks p.2 = true := f.row p (List.mem_cons_self ..)
  have ry : ∀ y ∈ ys, isRow ks y.2 = true := fun y hy => f.row y (List.mem_cons_of_mem _ hy)
  have tp : ∀ y ∈ ys.take n, before o y p = true := fun y hy => by
    obtain ⟨i, hi, e⟩ := List.mem_iff_getElem.mp hy
    rw [List.length_take] at hi
    have e2 : ys[i]? = some y := by
      rw [← e, List.getElem_take]
      exact List.getElem?_eq_getElem (by omega)
    have yy : y ∈ ys := List.mem_of_getElem? e2
    exact after_of ho rp (ry y yy) (nodup_ne (xs := [p]) (ys := ys) f.nd (List.mem_singleton.mpr rfl) yy) (h1 i y (by omega) e2)
  have pd : ∀ y ∈ ys.drop n, before o p y = true := fun y hy => by
    obtain ⟨i, hi, e⟩ := List.mem_iff_getElem.mp hy
    refine h2 (n + i) y (by omega) ?_
    rw [← e, List.getElem_drop]
    exact List.getElem?_eq_getElem (by rw [List.length_drop] at hi; omega)
  have a2 : Up o (ys.take n ++ ys.drop n) := by rw [List.take_append_drop]; exact a
  obtain ⟨b1, b2, b3⟩ := List.pairwise_append.mp a2
  rw [List.append_assoc]
  refine List.pairwise_append.mpr ⟨b1, List.pairwise_cons.mpr ⟨pd, b2⟩, fun x hx z hz => ?_⟩
  rcases List.mem_cons.mp hz with e | e
  · rw [e]; exact tp x hx
  · exact b3 x hx z e
def sortSpec (K : PySem.W.Frag) (most : Nat) : Sp := fun vs H Q E => match vs with
  | [ov, pv] => ∃ ks o xs, LstV TurnAt H ov o ∧ LstV PairAt H pv xs ∧ (∀ t ∈ o, t.1 < ks.length) ∧ Fine ks xs ∧ xs.length ≤ most ∧
    ∀ f ys H', H f = none → Lst PairAt H' f ys → ys.Perm xs → Up o ys → Same H H' → Q (.ref f) H'
  | _ => False
abbrev N_law_sorted : List Str := ["_law_order_here", "_law_pairs_here", "_law_found", "_law_pair", "_law_low", "_law_high", "_law_half"]
abbrev P_law_sorted : List Str := ["_law_order_here", "_law_pairs_here"]
def sp_law_sorted (K : PySem.W.Frag) : Sp := sortSpec K 1000
def t_law_sorted (K : PySem.W.Frag) (E : XK) : TS := (tSeq (tAsg (tLst tNil) (gName 2))
  (tSeq (tFor (iList K (tVar 1)) (gName 3) 
     (tSeq (tPar 4 5 (tConsC (.int 0) (tCons (tCB1 (xLen K) (tVar 2)) tNil)))
     (tSeq (tWhile (tTest (tOp xLt (tVar 4) (tVar 5))) 
        (tSeq (tAsg (tOpC xDiv (tOp xAdd (tVar 4) (tVar 5)) (.int 2)) (gName 6))
        (tIfS (tB (tCall (sp_law_ahead K) [] E (tCons (tVar 0) (tCons (tVar 3) (tCons (tOp (rIxL K) (tVar 2) (tVar 6)) tNil))))) (tAsg (tVar 6) (gName 5)) (tAsg (tOpC xAdd (tVar 6) (.int 1)) (gName 4)))))
      (tDrop (tBM K "list" xInsert (tVar 2) (tCons (tVar 4) (tCons (tVar 3) tNil)))))))
   (tRet (tVar 2))))
theorem pure_law_sorted {K : PySem.W.Frag} : ∀ vs H Q E, sp_law_sorted K vs H Q E → t_law_sorted K E { nx := fun _ H' => Q .non H', rt := Q } (start N_law_sorted vs) H := by
  intro vs H Q E h
  unfold sp_law_sorted at h
  match vs, h with
  | [ov, pv], h =>
    obtain ⟨ks, o, xs, ho, ⟨lx, rfl, xv, hx, hxs⟩, hcol, hf, hlen, k⟩ := h
    have hl := hxs.length
    refine ⟨sz0, fun f hn => ?_⟩
    refine ⟨_, rfl, lx, rfl, ⟨_, SqL.of (un hx hn)⟩, ?_⟩
    refine for_list (K := K) (a := lx) (xs := xv) (fun i σ H' => ∃ (ys : List Pr) (x3 x4 x5 x6 : Option V), σ = [some ov, some (.ref lx), some (.ref f), x3, x4, x5, x6] ∧ Same H H' ∧ Lst PairAt H' f ys ∧ ys.Perm (xs.take i) ∧ Up o ys)
      ⟨[], none, none, none, none, rfl, Rs.Same.new hn, ⟨[], upd_same, .nil⟩, by simp, .nil⟩ ?_ ?_ ?_
    · rintro i σ H' _ ⟨_, _, _, _, _, _, s, _⟩
      exact SqL.of (s _ _ hx)
    · rintro i v σ H' hi ⟨ys, x3, x4, x5, x6, rfl, s, ⟨yv, hy, hys⟩, hp, hu⟩
      obtain ⟨p, hp', hpa⟩ := P2.get hxs hi
      have hil := (List.getElem?_eq_some_iff.mp hi).1
      have hyl := hys.length
      have hpl := hp.length_eq
      rw [List.length_take] at hpl
      have tH := TupLe.same s
      have pp : (p :: ys).Perm (xs.take (i + 1)) := by
        rw [List.take_succ, hp']
        show (p :: ys).Perm (xs.take i ++ [p])
        exact (List.Perm.cons p hp).trans (List.perm_append_comm (l₁ := [p]) (l₂ := xs.take i))
      have ff : Fine ks (p :: ys) := (hf.take (i + 1)).perm pp
      refine ⟨_, rfl, _, _, rfl, .inl (SqL.of hy), _, _, rfl, ?_⟩
      refine ⟨fun m σ H1 => ∃ (lo hi : Nat) (x6 : Option V), m = hi - lo ∧ σ = [some ov, some (.ref lx), some (.ref f), some v, some (.int (lo : Int)), some (.int (hi : Int)), x6] ∧ H1 = H' ∧ lo ≤ hi ∧ hi ≤ ys.length ∧ (∀ j y, j < lo → ys[j]? = some y → before o p y = false) ∧ (∀ j y, hi ≤ j → ys[j]? = some y → before o p y = true),
        ⟨_, 0, ys.length, x6, rfl, by rw [← hyl]; rfl, rfl, Nat.zero_le _, Nat.le_refl _, fun j y h => absurd h (Nat.not_lt_zero _), fun j y h e => absurd (List.getElem?_eq_some_iff.mp e).1 (by omega)⟩, ?_⟩
      rintro m σ H1 ⟨lo, hi_, x6, rfl, rfl, rfl, h1, h2, ha, hb⟩
      refine ⟨_, rfl, _, rfl, _, _, rfl, rfl, _, rfl, ?_⟩
      by_cases hlt : (lo : Int) < (hi_ : Int)
      · rw [decide_eq_true hlt]
        have hmid : ((lo : Int) + (hi_ : Int)) / 2 = (((lo + hi_) / 2 : Nat) : Int) := by omega
        have hmlt : (lo + hi_) / 2 < ys.length := by omega
        obtain ⟨w, hw, hwa⟩ := P2.get' hys (List.getElem?_eq_getElem hmlt)
        refine ⟨fun σ H2 => ∃ (lo2 hi2 : Nat) (x6 : Option V), hi2 - lo2 < hi_ - lo ∧ σ = [some ov, some (.ref lx), some (.ref f), some v, some (.int (lo2 : Int)), some (.int (hi2 : Int)), x6] ∧ H2 = H1 ∧ lo2 ≤ hi2 ∧ hi2 ≤ ys.length ∧ (∀ j y, j < lo2 → ys[j]? = some y → before o p y = false) ∧ (∀ j y, hi2 ≤ j → ys[j]? = some y → before o p y = true), ?_, ?_⟩
        · rintro σ H2 ⟨lo2, hi2, x6, g1, g2⟩
          exact ⟨_, g1, lo2, hi2, x6, rfl, g2⟩
        · refine ⟨_, rfl, _, rfl, _, _, rfl, rfl, _, _, rfl, rfl, div_ok (by decide) (by decide), ?_⟩
          dsimp only
          rw [hmid]
          refine ⟨_, rfl, _, rfl, _, rfl, _, rfl, _, _, _, _, rfl, rfl, SqL.of hy, at_of rfl hw, o, p, ys[(lo + hi_) / 2], LstV.same TurnAt.st s ho, PairAt.st _ _ _ _ tH hpa, hwa, cmp_of hcol (ff.row p (List.mem_cons_self ..)) (ff.row _ (List.mem_cons_of_mem _ (List.getElem_mem hmlt))), _, rfl, ?_⟩
          -- all behind, ahead of the middle
          have rp : isRow ks p.2 = true := ff.row p (List.mem_cons_self ..)
          have rr : ∀ y ∈ ys, isRow ks y.2 = true := fun y hy => ff.row y (List.mem_cons_of_mem _ hy)
          cases hc : before o p ys[(lo + hi_) / 2] with
          | true =>
            refine ⟨_, rfl, lo, (lo + hi_) / 2, _, by omega, rfl, rfl, by omega, by omega, ha, fun j y hj e => ?_⟩
            have hjl := (List.getElem?_eq_some_iff.mp e).1
            by_cases ej : j = (lo + hi_) / 2
            · subst ej
              rw [List.getElem?_eq_getElem hmlt] at e
              cases e
              exact hc
            · have ey : ys[j] = y := by rw [List.getElem?_eq_getElem hjl] at e; exact Option.some.inj e
              have q := List.pairwise_iff_getElem.mp hu ((lo + hi_) / 2) j hmlt hjl (by omega)
              rw [ey] at q
              exact before_trans o (cmp_of hcol rp (rr _ (List.getElem_mem hmlt))) (cmp_of hcol (rr _ (List.getElem_mem hmlt)) (rr y (List.mem_of_getElem? e))) hc q
          | false =>
            refine ⟨_, rfl, _, _, rfl, rfl, (lo + hi_) / 2 + 1, hi_, _, by omega, rfl, rfl, by omega, by omega, fun j y hj e => ?_, hb⟩
            have hjl := (List.getElem?_eq_some_iff.mp e).1
            by_cases ej : j = (lo + hi_) / 2
            · subst ej
              rw [List.getElem?_eq_getElem hmlt] at e
              cases e
              exact hc
            · have ey : ys[j] = y := by rw [List.getElem?_eq_getElem hjl] at e; exact Option.some.inj e
              have q := List.pairwise_iff_getElem.mp hu j ((lo + hi_) / 2) hjl hmlt (by omega)
              rw [ey] at q
              cases hpy : before o p y with
              | false => rfl
              | true =>
                have t := before_trans o (cmp_of hcol rp (rr y (List.mem_of_getElem? e))) (cmp_of hcol (rr y (List.mem_of_getElem? e)) (rr _ (List.getElem_mem hmlt))) hpy q
                rw [hc] at t
                cases t
      · rw [decide_eq_false hlt]
        have elo : lo = hi_ := by omega
        refine ⟨_, rfl, .inl ⟨rfl, _, SqL.of hy⟩, _, rfl, _, rfl, _, _, _, _, rfl, rfl, hy, szlt (by omega), by omega, by omega, ?_⟩
        have t2 : TupLe H1 (upd H1 f (.lst (yv.take lo ++ [v] ++ yv.drop lo))) := (TupLe.refl H1).list hy
        refine ⟨ys.take lo ++ [p] ++ ys.drop lo, _, _, _, _, rfl, Rs.Same.mut s hn, ⟨_, upd_same, ?_⟩, ?_, put_up hcol ff hu ha (by rw [elo]; exact hb)⟩
        · exact P2.app (P2.app (Paired.tl PairAt.st t2 (P2.take _ hys)) (P2.one (PairAt.st _ _ _ _ (tH.trans t2) hpa))) (Paired.tl PairAt.st t2 (P2.drop _ hys))
        · refine List.Perm.trans ?_ pp
          rw [List.append_assoc]
          refine List.perm_middle.trans ?_
          show (p :: (ys.take lo ++ ys.drop lo)).Perm (p :: ys)
          rw [List.take_append_drop]
    · rintro σ H' ⟨ys, x3, x4, x5, x6, rfl, s, hy, hp, hu⟩
      rw [List.take_of_length_le (by omega)] at hp
      exact ⟨_, rfl, k f ys H' hn hy hp hu s⟩
end Rs

namespace Rs
open PySem PySem.Spec PyProof.Rows L2
structure TxtRoom (K : PySem.W.Frag) : Prop where
  cl : Cls K (He.ga K "Room")
  n_order : NoAttr K (He.ga K "Room") "order"
  n_cells : NoAttr K (He.ga K "Room") "cells"
def f_Room (x0 x1 : V) : List (Str × V) := [(("order" : Str), x0), (("cells" : Str), x1)]
def RoomOb (K : PySem.W.Frag) (H : Hp) (p : Addr) (x0 x1 : V) : Prop := ∃ dx, H p = some (.ins (He.ga K "Room") dx (f_Room x0 x1))
section
variable {K : PySem.W.Frag} {x0 x1 y : V} {H : Hp} {Q : VK} {p : Addr} {D : Ends} {σ : L2.St}
theorem fl_Room_order : (f_Room x0 x1).lookup ("order" : Str) = some x0 := by
  unfold f_Room
  rw [lk_hd]
theorem g_Room_order (T : TxtRoom K) (h : RoomOb K H p x0 x1) (q : Q x0 H) : rFld K "order" (.ref p) H Q := let ⟨dx, h⟩ := h; ⟨p, _, dx, _, _, rfl, h, T.cl, T.n_order, fl_Room_order, q⟩
theorem fl_Room_cells : (f_Room x0 x1).lookup ("cells" : Str) = some x1 := by
  unfold f_Room
  rw [lk_tl (by decide +kernel), lk_hd]
theorem g_Room_cells (T : TxtRoom K) (h : RoomOb K H p x0 x1) (q : Q x1 H) : rFld K "cells" (.ref p) H Q := let ⟨dx, h⟩ := h; ⟨p, _, dx, _, _, rfl, h, T.cl, T.n_cells, fl_Room_cells, q⟩
theorem no_Room_is_less : (f_Room x0 x1).lookup ("is_less" : Str) = none := by
  unfold f_Room
  rw [lk_tl (by decide +kernel), lk_tl (by decide +kernel), lk_nil]
theorem no_Room_put : (f_Room x0 x1).lookup ("put" : Str) = none := by
  unfold f_Room
  rw [lk_tl (by decide +kernel), lk_tl (by decide +kernel), lk_nil]
theorem no_Room_swap : (f_Room x0 x1).lookup ("swap" : Str) = none := by
  unfold f_Room
  rw [lk_tl (by decide +kernel), lk_tl (by decide +kernel), lk_nil]
theorem no_Room_lesser : (f_Room x0 x1).lookup ("lesser" : Str) = none := by
  unfold f_Room
  rw [lk_tl (by decide +kernel), lk_tl (by decide +kernel), lk_nil]
theorem no_Room_take : (f_Room x0 x1).lookup ("take" : Str) = none := by
  unfold f_Room
  rw [lk_tl (by decide +kernel), lk_tl (by decide +kernel), lk_nil]
theorem no_Room_many_in : (f_Room x0 x1).lookup ("many_in" : Str) = none := by
  unfold f_Room
  rw [lk_tl (by decide +kernel), lk_tl (by decide +kernel), lk_nil]
end
structure TxtMaker (K : PySem.W.Frag) : Prop where
  cl : Cls K (He.ga K "Maker")
  n_order : NoAttr K (He.ga K "Maker") "order"
  n_size : NoAttr K (He.ga K "Maker") "size"
  n_room : NoAttr K (He.ga K "Maker") "room"
  n_run : NoAttr K (He.ga K "Maker") "run"
  n_last : NoAttr K (He.ga K "Maker") "last"
def f_Maker (x0 x1 x2 x3 x4 : V) : List (Str × V) := [(("order" : Str), x0), (("size" : Str), x1), (("room" : Str), x2), (("run" : Str), x3), (("last" : Str), x4)]
def MakerOb (K : PySem.W.Frag) (H : Hp) (p : Addr) (x0 x1 x2 x3 x4 : V) : Prop := ∃ dx, H p = some (.ins (He.ga K "Maker") dx (f_Maker x0 x1 x2 x3 x4))
section
variable {K : PySem.W.Frag} {x0 x1 x2 x3 x4 y : V} {H : Hp} {Q : VK} {p : Addr} {D : Ends} {σ : L2.St}
end
def swp {α : Type} (d : α) (cs : List α) (i j : Nat) : List α := (cs.set i (cs.getD j d)).set j (cs.getD i d)
section
variable {α : Type} {d : α} {cs : List α} {i j k : Nat}
theorem swp_len : (swp d cs i j).length = cs.length := by unfold swp; rw [List.length_set, List.length_set]
theorem getD_set (x : α) (hi : i < cs.length) : (cs.set i x).getD k d = if k = i then x else cs.getD k d := by
  rw [List.getD_eq_getElem?_getD, List.getD_eq_getElem?_getD]
  by_cases e : k = i
  · subst e
    rw [if_pos rfl, List.getElem?_set_self hi]
    rfl
  · rw [if_neg e, List.getElem?_set_ne (Ne.symm e)]
theorem swp_get (hi : i < cs.length) (hj : j < cs.length) : (swp d cs i j).getD k d = if k = j then cs.getD i d else if k = i then cs.getD j d else cs.getD k d := by
  unfold swp
  rw [getD_set _ (by rw [List.length_set]; exact hj), getD_set _ hi]
theorem getD_lt (hi : i < cs.length) : cs.getD i d = cs[i] := by
  rw [List.getD_eq_getElem?_getD, List.getElem?_eq_getElem hi]
  rfl
theorem swp_perm (hi : i < cs.length) (hj : j < cs.length) : (swp d cs i j).Perm cs := by
  unfold swp
  rw [getD_lt hi, getD_lt hj]
  exact List.set_set_perm hi hj
theorem getD_mem (hi : i < cs.length) : cs.getD i d ∈ cs := by
  rw [getD_lt hi]
  exact List.getElem_mem hi
end
structure Strict {α : Type} (ok : α → Prop) (lt : α → α → Bool) : Prop where
  asym : ∀ a b, ok a → ok b → lt a b = true → lt b a = false
  neg : ∀ a b c, ok a → ok b → ok c → lt b a = false → lt c b = false → lt c a = false
section
variable {α : Type} {ok : α → Prop} {lt : α → α → Bool} {d : α}
def IsHeap (lt : α → α → Bool) (d : α) (cs : List α) : Prop := ∀ i, 0 < i → i < cs.length → lt (cs.getD i d) (cs.getD ((i - 1) / 2) d) = false
def HeapUp (lt : α → α → Bool) (d : α) (cs : List α) (at_ : Nat) : Prop :=
  (∀ i, 0 < i → i < cs.length → i ≠ at_ → lt (cs.getD i d) (cs.getD ((i - 1) / 2) d) = false) ∧ ∀ i, 0 < i → i < cs.length → (i - 1) / 2 = at_ → 0 < at_ → lt (cs.getD i d) (cs.getD ((at_ - 1) / 2) d) = false
def HeapDown (lt : α → α → Bool) (d : α) (cs : List α) (at_ : Nat) : Prop :=
  (∀ i, 0 < i → i < cs.length → (i - 1) / 2 ≠ at_ → lt (cs.getD i d) (cs.getD ((i - 1) / 2) d) = false) ∧ ∀ i, 0 < i → i < cs.length → (i - 1) / 2 = at_ → 0 < at_ → lt (cs.getD i d) (cs.getD ((at_ - 1) / 2) d) = false
theorem up_turn (S : Strict ok lt) {cs : List α} {a : Nat} (hok : ∀ x ∈ cs, ok x) (h : HeapUp lt d cs a) (h0 : 0 < a) (ha : a < cs.length) (hl : lt (cs.getD a d) (cs.getD ((a - 1) / 2) d) = true) : HeapUp lt d (swp d cs a ((a - 1) / 2)) ((a - 1) / 2) := by
  have hp : (a - 1) / 2 < cs.length := by omega
  have hpa : (a - 1) / 2 < a := by omega
  have O : ∀ {i}, i < cs.length → ok (cs.getD i d) := fun hi => hok _ (getD_mem hi)
  generalize hpe : (a - 1) / 2 = p at hl hp hpa
  refine ⟨fun i h1 h2 h3 => ?_, fun i h1 h2 h3 h4 => ?_⟩
  · rw [swp_len] at h2
    rw [swp_get ha hp, swp_get ha hp, if_neg h3]
    by_cases e : i = a
    · subst e
      rw [if_pos rfl, hpe, if_pos rfl]
      exact S.asym _ _ (O h2) (O hp) hl
    · rw [if_neg e]
      by_cases e1 : (i - 1) / 2 = p
      · rw [if_pos e1]
        have q := h.1 i h1 h2 e
        rw [e1] at q
        exact S.neg _ _ _ (O ha) (O hp) (O h2) (S.asym _ _ (O ha) (O hp) hl) q
      · rw [if_neg e1]
        by_cases e2 : (i - 1) / 2 = a
        · rw [if_pos e2]
          have q := h.2 i h1 h2 e2 h0
          rw [hpe] at q
          exact q
        · rw [if_neg e2]
          exact h.1 i h1 h2 e
  · rw [swp_len] at h2
    have hg : (p - 1) / 2 < cs.length := by omega
    have n1 : (p - 1) / 2 ≠ p := by omega
    have n2 : (p - 1) / 2 ≠ a := by omega
    rw [swp_get ha hp, swp_get ha hp, if_neg n1, if_neg n2, if_neg (by omega : i ≠ p)]
    have q := h.1 p h4 hp (by omega)
    by_cases e : i = a
    · rw [if_pos e]
      exact q
    · rw [if_neg e]
      have q2 := h.1 i h1 h2 e
      rw [h3] at q2
      exact S.neg _ _ _ (O hg) (O hp) (O h2) q q2
theorem up_end {cs : List α} {a : Nat} (h : HeapUp lt d cs a) (e : a = 0 ∨ lt (cs.getD a d) (cs.getD ((a - 1) / 2) d) = false) : IsHeap lt d cs := fun i h1 h2 => by
  by_cases ei : i = a
  · rcases e with e | e
    · omega
    · rw [ei]; exact e
  · exact h.1 i h1 h2 ei
theorem up_start {cs : List α} {x : α} (h : IsHeap lt d cs) : HeapUp lt d (cs ++ [x]) cs.length := by
  have g : ∀ i, i < cs.length → (cs ++ [x]).getD i d = cs.getD i d := fun i hi => by
    rw [List.getD_eq_getElem?_getD, List.getD_eq_getElem?_getD, List.getElem?_append_left hi]
  refine ⟨fun i h1 h2 h3 => ?_, fun i h1 h2 h3 h4 => ?_⟩
  · rw [List.length_append, List.length_singleton] at h2
    rw [g i (by omega), g _ (by omega)]
    exact h i h1 (by omega)
  · rw [List.length_append, List.length_singleton] at h2
    omega
theorem down_turn (S : Strict ok lt) {cs : List α} {a b : Nat} (hok : ∀ x ∈ cs, ok x) (h : HeapDown lt d cs a) (hb0 : 0 < b) (hb : b < cs.length) (hba : (b - 1) / 2 = a) (hmin : ∀ c, 0 < c → c < cs.length → (c - 1) / 2 = a → lt (cs.getD c d) (cs.getD b d) = false)
    (hl : lt (cs.getD b d) (cs.getD a d) = true) : HeapDown lt d (swp d cs a b) b := by
  have ha : a < cs.length := by omega
  have O : ∀ {i}, i < cs.length → ok (cs.getD i d) := fun hi => hok _ (getD_mem hi)
  refine ⟨fun i h1 h2 h3 => ?_, fun i h1 h2 h3 h4 => ?_⟩
  · rw [swp_len] at h2
    rw [swp_get ha hb, swp_get ha hb]
    rw [if_neg (by omega : (i - 1) / 2 ≠ b)]
    by_cases e : i = b
    · subst e
      rw [if_pos rfl, if_pos hba]
      exact S.asym _ _ (O h2) (O ha) hl
    · rw [if_neg e]
      by_cases e1 : (i - 1) / 2 = a
      · rw [if_pos e1, if_neg (by omega : i ≠ a)]
        exact hmin i h1 h2 e1
      · rw [if_neg e1]
        by_cases e2 : i = a
        · subst e2
          rw [if_pos rfl]
          exact h.2 b hb0 hb hba h1
        · rw [if_neg e2]
          exact h.1 i h1 h2 e1
  · rw [swp_len] at h2
    rw [swp_get ha hb, swp_get ha hb, hba, if_neg (by omega : i ≠ b), if_neg (by omega : i ≠ a), if_neg (by omega : a ≠ b), if_pos rfl]
    have q := h.1 i h1 h2 (by omega)
    rw [h3] at q
    exact q
theorem down_end (S : Strict ok lt) {cs : List α} {a : Nat} (hok : ∀ x ∈ cs, ok x) (h : HeapDown lt d cs a) (e : ∀ c, 0 < c → c < cs.length → (c - 1) / 2 = a → ∃ b, b < cs.length ∧ lt (cs.getD c d) (cs.getD b d) = false ∧ lt (cs.getD b d) (cs.getD a d) = false) : IsHeap lt d cs := fun i h1 h2 => by
  have O : ∀ {i}, i < cs.length → ok (cs.getD i d) := fun hi => hok _ (getD_mem hi)
  by_cases ei : (i - 1) / 2 = a
  · obtain ⟨b, hb, q1, q2⟩ := e i h1 h2 ei
    rw [ei]
    exact S.neg _ _ _ (O (by omega)) (O hb) (O h2) q2 q1
  · exact h.1 i h1 h2 ei
theorem heap_min (S : Strict ok lt) {cs : List α} (hok : ∀ x ∈ cs, ok x) (h : IsHeap lt d cs) (irr : ∀ x, lt x x = false) : ∀ i, i < cs.length → lt (cs.getD i d) (cs.getD 0 d) = false := by
  have O : ∀ {i}, i < cs.length → ok (cs.getD i d) := fun hi => hok _ (getD_mem hi)
  intro i
  induction i using Nat.strongRecOn with
  | ind i ih =>
    intro hi
    by_cases e : i = 0
    · subst e
      exact irr _
    · exact S.neg _ _ _ (O (by omega)) (O (by omega)) (O hi) (ih ((i - 1) / 2) (by omega) (by omega)) (h i (by omega) hi)
theorem down_start {cs : List α} (h : IsHeap lt d cs) (h0 : 0 < cs.length) : HeapDown lt d (swp d cs 0 (cs.length - 1)).dropLast 0 := by
  have g : ∀ i, i < cs.length - 1 → (swp d cs 0 (cs.length - 1)).dropLast.getD i d = if i = 0 then cs.getD (cs.length - 1) d else cs.getD i d := fun i hi => by
    have e : (swp d cs 0 (cs.length - 1)).dropLast.getD i d = (swp d cs 0 (cs.length - 1)).getD i d := by
      rw [List.getD_eq_getElem?_getD, List.getD_eq_getElem?_getD, List.getElem?_dropLast, swp_len, if_pos hi]
    rw [e, swp_get h0 (by omega), if_neg (by omega : i ≠ cs.length - 1)]
  refine ⟨fun i h1 h2 h3 => ?_, fun i _ _ _ h4 => absurd h4 (Nat.lt_irrefl _)⟩
  rw [List.length_dropLast, swp_len] at h2
  rw [g i h2, g _ (by omega), if_neg (by omega), if_neg h3]
  exact h i h1 (by omega)
end
abbrev Cell := Int × Pr
def c0 : Cell := (0, 0, [])
def cless (o : Ord) (c e : Cell) : Bool := if c.1 ≠ e.1 then decide (c.1 < e.1) else before o c.2 e.2
theorem cless_irrefl (o : Ord) (c : Cell) : cless o c c = false := by
  unfold cless
  rw [if_neg (fun h => h rfl)]
  exact before_irrefl o _
theorem before_co : ∀ (o : Ord) {a b c : Pr}, Cmp o a.2 b.2 → Cmp o b.2 c.2 → before o c a = true → before o c b = true ∨ before o b a = true
  | [], a, b, c, _, _, h => by
    simp only [before, decide_eq_true_eq] at h ⊢
    omega
  | t :: o, a, b, c, h1, h2, h => by
    have l1 := h1.head
    have l2 := h2.head
    rw [before_cons] at h
    rw [before_cons, before_cons]
    by_cases e : kcol c.2 t.1 = kcol a.2 t.1
    · rw [if_pos e] at h
      by_cases e2 : kcol c.2 t.1 = kcol b.2 t.1
      · rw [if_pos e2, if_pos (e2.symm.trans e)]
        exact before_co o h1.tail h2.tail h
      · rw [if_neg e2, if_neg (fun z => e2 (e.trans z.symm))]
        have q := keyLt_tot l2.symm e2
        rw [e] at q ⊢
        rw [q]
        cases keyLt (kcol a.2 t.1) (kcol b.2 t.1) <;> cases t.2 <;> simp
    · rw [if_neg e] at h
      by_cases e2 : kcol c.2 t.1 = kcol b.2 t.1
      · right
        rw [if_neg (fun z => e (e2.trans z)), ← e2]
        exact h
      · rw [if_neg e2]
        by_cases e3 : kcol b.2 t.1 = kcol a.2 t.1
        · left
          rw [e3]
          exact h
        · rw [if_neg e3]
          have q1 := keyLt_tot l2.symm e2
          have q2 := keyLt_tot l1.symm e3
          have q3 := keyLt_tot (l2.symm.trans l1.symm) e
          have hb := beq_iff_eq.mp h
          cases ht : t.2 with
          | true =>
            rw [ht] at hb
            cases k1 : keyLt (kcol c.2 t.1) (kcol b.2 t.1) with
            | true => left; rfl
            | false =>
              cases k2 : keyLt (kcol b.2 t.1) (kcol a.2 t.1) with
              | true => right; rfl
              | false =>
                rw [k1] at q1
                rw [k2] at q2
                have tr := keyLt_trans q2 q1
                rw [q3, hb] at tr
                cases tr
          | false =>
            rw [ht] at hb
            cases k1 : keyLt (kcol c.2 t.1) (kcol b.2 t.1) with
            | false => left; rfl
            | true =>
              cases k2 : keyLt (kcol b.2 t.1) (kcol a.2 t.1) with
              | false => right; rfl
              | true =>
                have tr := keyLt_trans k1 k2
                rw [hb] at tr
                cases tr
theorem cless_strict {ks : List Str} {o : Ord} (ho : ∀ t ∈ o, t.1 < ks.length) : Strict (fun c : Cell => isRow ks c.2.2 = true) (cless o) where
  asym := fun a b ha hb h => by
    cases hba : cless o b a with
    | false => rfl
    | true =>
      unfold cless at h hba
      by_cases e : a.1 = b.1
      · rw [if_neg (fun z => z e)] at h
        rw [if_neg (fun z => z e.symm)] at hba
        have t := before_trans o (cmp_of ho ha hb) (cmp_of ho hb ha) h hba
        rw [before_irrefl] at t
        cases t
      · rw [if_pos e] at h
        rw [if_pos (Ne.symm e)] at hba
        have h1 := of_decide_eq_true h
        have h2 := of_decide_eq_true hba
        omega
  neg := fun a b c ha hb hc h1 h2 => by
    cases hca : cless o c a with
    | false => rfl
    | true =>
      unfold cless at h1 h2 hca
      by_cases e : c.1 = a.1
      · rw [if_neg (fun z => z e)] at hca
        by_cases e1 : b.1 = a.1
        · rw [if_neg (fun z => z e1)] at h1
          rw [if_neg (fun z => z (e.trans e1.symm))] at h2
          rcases before_co o (cmp_of ho ha hb) (cmp_of ho hb hc) hca with q | q
          · rw [q] at h2; cases h2
          · rw [q] at h1; cases h1
        · rw [if_pos e1] at h1
          rw [if_pos (fun z => e1 (z.symm.trans e))] at h2
          have g1 := of_decide_eq_false h1
          have g2 := of_decide_eq_false h2
          omega
      · rw [if_pos e] at hca
        have g := of_decide_eq_true hca
        by_cases e1 : b.1 = a.1
        · rw [if_pos (fun z => e (z.trans e1))] at h2
          have g2 := of_decide_eq_false h2
          omega
        · rw [if_pos e1] at h1
          have g1 := of_decide_eq_false h1
          by_cases e2 : c.1 = b.1
          · omega
          · rw [if_pos e2] at h2
            have g2 := of_decide_eq_false h2
            omega
end Rs

namespace Rs
open PySem PySem.Spec PyProof.Rows L2
def CellAt : Rel Cell := fun H v c => ∃ w, IsTp H v [.int c.1, w] ∧ PairAt H w c.2
theorem CellAt.st : Stable CellAt := fun _ _ _ _ t ⟨w, a, b⟩ => ⟨w, a.mono t, PairAt.st _ _ _ _ t b⟩
structure RoomS (K : PySem.W.Frag) (H : Hp) (p lo lc : Addr) (o : Ord) (cs : List Cell) : Prop where
  ob : RoomOb K H p (.ref lo) (.ref lc)
  ord : Lst TurnAt H lo o
  cells : Lst CellAt H lc cs
  ne : lo ≠ lc
theorem RoomOb.keep {K : PySem.W.Frag} {H H' : Hp} {p : Addr} {x y : V} (h : RoomOb K H p x y) (k : ∀ o, H p = some o → H' p = some o) : RoomOb K H' p x y := let ⟨dx, e⟩ := h; ⟨dx, k _ e⟩
theorem RoomOb.same {K : PySem.W.Frag} {H H' : Hp} {p : Addr} {x y : V} (h : RoomOb K H p x y) (s : Same H H') : RoomOb K H' p x y := h.keep fun o => s p o
theorem But.tupL {H H' : Hp} {l : Addr} {vs : List V} (h : H l = some (.lst vs)) (k : But [l] H H') : TupLe H H' := fun c xs e => k c _ e (by
  intro hm
  rw [List.mem_singleton] at hm
  subst hm
  rw [h] at e
  cases e)
theorem ne1 {a b : Addr} (h : a ≠ b) : a ∉ [b] := fun hm => h (List.mem_singleton.mp hm)
theorem RoomS.same {K : PySem.W.Frag} {H H' : Hp} {p lo lc : Addr} {o : Ord} {cs : List Cell} (h : RoomS K H p lo lc o cs) (s : Same H H') : RoomS K H' p lo lc o cs := ⟨h.ob.same s, h.ord.same TurnAt.st s, h.cells.same CellAt.st s, h.ne⟩
theorem RoomS.plc {K : PySem.W.Frag} {H : Hp} {p lo lc : Addr} {o : Ord} {cs : List Cell} (h : RoomS K H p lo lc o cs) : p ≠ lc := by
  obtain ⟨dx, e⟩ := h.ob
  obtain ⟨vs, e2, _⟩ := h.cells
  exact ne_of e e2 (by intro z; cases z)
theorem RoomS.other {K : PySem.W.Frag} {H H' : Hp} {p lo lc : Addr} {o : Ord} {cs cs' : List Cell} (h : RoomS K H p lo lc o cs) (k : But [lc] H H') (c : Lst CellAt H' lc cs') : RoomS K H' p lo lc o cs' := by
  obtain ⟨vs, e2, _⟩ := h.cells
  have t := But.tupL e2 k
  exact ⟨h.ob.keep fun u e => k _ _ e (ne1 h.plc), h.ord.keep TurnAt.st t fun u e => k _ _ e (ne1 h.ne), c, h.ne⟩
theorem Lst.cell {α : Type} {R : Rel α} {H : Hp} {l : Addr} {xs : List α} (h : Lst R H l xs) {i : Nat} {x : α} (e : xs[i]? = some x) : ∃ vs v, H l = some (.lst vs) ∧ vs[i]? = some v ∧ R H v x := by
  obtain ⟨vs, a, b⟩ := h
  obtain ⟨v, hv, r⟩ := P2.get' b e
  exact ⟨vs, v, a, hv, r⟩
abbrev N_Room___init__ : List Str := ["self", "order"]
abbrev P_Room___init__ : List Str := ["self", "order"]
def sp_Room___init__ (K : PySem.W.Frag) : Sp := fun vs H Q E => match vs with
  | [s, ov] => ∃ p dx lo o, s = .ref p ∧ ov = .ref lo ∧ H p = some (.ins (He.ga K "Room") dx []) ∧ Lst TurnAt H lo o ∧ ∀ lc H', RoomS K H' p lo lc o [] → H lc = none → But [p] H H' → Q .non H'
  | _ => False
def t_Room___init__ (K : PySem.W.Frag) (E : XK) : TS := (tSeq (sFl K (tVar 0) (tVar 1) "order")
  (sFl K (tVar 0) (tLst tNil) "cells"))
theorem pure_Room___init__ {K : PySem.W.Frag} (T : TxtRoom K) : ∀ vs H Q E, sp_Room___init__ K vs H Q E → t_Room___init__ K E { nx := fun _ H' => Q .non H', rt := Q } (start N_Room___init__ vs) H := by
  intro vs H Q E h
  match vs, h with
  | [s, ov], h =>
    obtain ⟨p, dx, lo, o, rfl, rfl, hp, ho, k⟩ := h
    have npo : lo ≠ p := by
      obtain ⟨tv, e, _⟩ := ho
      exact ne_of e hp (by intro z; cases z)
    refine ⟨_, rfl, _, rfl, p, _, dx, _, rfl, hp, T.cl, T.n_order, by show 0 < 1000; decide, ?_⟩
    rw [put_nil]
    refine ⟨sz0, fun lc hl => ?_⟩
    have hl0 : H lc = none := none_of_but (S := [p]) ((But.refl _ _).put (by simp)) hl (ne1 (ne_of_none upd_same hl).symm)
    have npl : p ≠ lc := ne_of_none upd_same hl
    refine ⟨_, rfl, p, _, dx, _, rfl, un upd_same hl, T.cl, T.n_cells, by show 1 < 1000; decide, ?_⟩
    rw [put_tl (by decide +kernel), put_nil]
    have kk : But [p] H (upd (upd (upd H p (.ins (He.ga K "Room") dx [(("order" : Str), .ref lo)])) lc (.lst [])) p (.ins (He.ga K "Room") dx [(("order" : Str), .ref lo), (("cells" : Str), .ref lc)])) := (((But.refl [p] H).put (by simp)).new hl).put (by simp)
    have tt : TupLe H (upd (upd (upd H p (.ins (He.ga K "Room") dx [(("order" : Str), .ref lo)])) lc (.lst [])) p (.ins (He.ga K "Room") dx [(("order" : Str), .ref lo), (("cells" : Str), .ref lc)])) := fun c xs e => kk c _ e (ne1 (ne_of e hp (by intro z; cases z)))
    refine k lc _ ⟨⟨dx, upd_same⟩, ho.keep TurnAt.st tt fun u e => kk _ _ e (ne1 npo), ⟨[], ?_, .nil⟩, ?_⟩ hl0 kk
    · rw [upd_ne npl.symm]
      exact upd_same
    · obtain ⟨tv, e, _⟩ := ho
      exact ne_of_none e hl0
abbrev N_Room_is_less : List Str := ["self", "one", "other"]
abbrev P_Room_is_less : List Str := ["self", "one", "other"]
def sp_Room_is_less (K : PySem.W.Frag) : Sp := fun vs H Q E => match vs with
  | [s, a, b] => ∃ p lo x o c e, s = .ref p ∧ RoomOb K H p (.ref lo) x ∧ Lst TurnAt H lo o ∧ CellAt H a c ∧ CellAt H b e ∧ Cmp o c.2.2 e.2.2 ∧ Q (.bl (cless o c e)) H
  | _ => False
def t_Room_is_less (K : PySem.W.Frag) (E : XK) : TS := (tSeq (tIfS (tTest (tOp rNe (tOpC (rIxT K) (tVar 1) (.int 0)) (tOpC (rIxT K) (tVar 2) (.int 0)))) (tRet (tOp xLt (tOpC (rIxT K) (tVar 1) (.int 0)) (tOpC (rIxT K) (tVar 2) (.int 0)))) tNext)
  (tRet (tCall (sp_is_before K) [] E (tCons (tFl K (tVar 0) "order") (tCons (tOpC (rIxT K) (tVar 1) (.int 1)) (tCons (tOpC (rIxT K) (tVar 2) (.int 1)) tNil))))))
theorem pure_Room_is_less {K : PySem.W.Frag} (T : TxtRoom K) : ∀ vs H Q E, sp_Room_is_less K vs H Q E → t_Room_is_less K E { nx := fun _ H' => Q .non H', rt := Q } (start N_Room_is_less vs) H := by
  intro vs H Q E h
  match vs, h with
  | [s, a, b], h =>
    obtain ⟨p, lo, x, o, c, e, rfl, ob, ho, ⟨w1, ha, hp1⟩, ⟨w2, hb, hp2⟩, hc, k⟩ := h
    refine ⟨_, rfl, ixT ha (j := 0) rfl rfl ⟨_, rfl, ixT hb (j := 0) rfl rfl ⟨rfl, _, rfl, ?_⟩⟩⟩
    unfold cless at k
    by_cases h1 : c.1 = e.1
    · have d1 : (!decide (V.int c.1 = V.int e.1)) = false := by rw [h1]; simp
      rw [d1]
      rw [if_neg (fun z => z h1)] at k
      exact ⟨_, rfl, g_Room_order T ob ⟨_, rfl, ixT ha (j := 1) rfl rfl ⟨_, rfl, ixT hb (j := 1) rfl rfl ⟨o, _, _, ⟨lo, rfl, ho⟩, hp1, hp2, hc, k⟩⟩⟩⟩
    · have d1 : (!decide (V.int c.1 = V.int e.1)) = true := by rw [decide_eq_false fun z => h1 (by injection z)]; rfl
      rw [d1]
      rw [if_pos h1] at k
      exact ⟨_, rfl, ixT ha (j := 0) rfl rfl ⟨_, rfl, ixT hb (j := 0) rfl rfl ⟨_, _, rfl, rfl, k⟩⟩⟩
abbrev N_Room_swap : List Str := ["self", "one", "other"]
abbrev P_Room_swap : List Str := ["self", "one", "other"]
def sp_Room_swap (K : PySem.W.Frag) : Sp := fun vs H Q E => match vs with
  | [s, a, b] => ∃ p lo lc o cs i j, s = .ref p ∧ RoomS K H p lo lc o cs ∧ a = .int ((i : Nat) : Int) ∧ b = .int ((j : Nat) : Int) ∧ i < cs.length ∧ j < cs.length ∧ ∀ H', RoomS K H' p lo lc o (swp c0 cs i j) → But [lc] H H' → Q .non H'
  | _ => False
def t_Room_swap (K : PySem.W.Frag) (E : XK) : TS := (tAsg (tTup (tCons (tOp (rIxL K) (tFl K (tVar 0) "cells") (tVar 2)) (tCons (tOp (rIxL K) (tFl K (tVar 0) "cells") (tVar 1)) tNil))) (gTup K 2 (gCons (gSub (tFl K (tVar 0) "cells") (tVar 1) rSetL) (gCons (gSub (tFl K (tVar 0) "cells") (tVar 2) rSetL) gNil))))
theorem pure_Room_swap {K : PySem.W.Frag} (T : TxtRoom K) : ∀ vs H Q E, sp_Room_swap K vs H Q E → t_Room_swap K E { nx := fun _ H' => Q .non H', rt := Q } (start N_Room_swap vs) H := by
  intro vs H Q E h
  match vs, h with
  | [s, a, b], h =>
    obtain ⟨p, lo, lc, o, cs, i, j, rfl, R, rfl, rfl, hi, hj, k⟩ := h
    obtain ⟨vs, hl, hcs⟩ := R.cells
    have hlen := hcs.length
    obtain ⟨vi, hvi, ri⟩ := P2.get' hcs (List.getElem?_eq_getElem hi)
    obtain ⟨vj, hvj, rj⟩ := P2.get' hcs (List.getElem?_eq_getElem hj)
    refine ⟨_, rfl, g_Room_cells T R.ob ⟨_, rfl, ixL hl (j := j) rfl hvj ⟨_, rfl, g_Room_cells T R.ob ⟨_, rfl, ixL hl (j := i) rfl hvi ⟨szle (by show 2 ≤ 100000; decide), fun t ht => ?_⟩⟩⟩⟩⟩
    have s1 := Rs.Same.new (o := .tup [vj, vi]) ht
    have hl1 := s1 _ _ hl
    refine ⟨t, _, rfl, SqT.of upd_same, rfl, _, _, rfl, ?_⟩
    refine ⟨_, rfl, g_Room_cells T (R.ob.same s1) ⟨_, rfl, _, _, _, i, rfl, rfl, hl1, ixN_nat (by omega), ?_⟩⟩
    have R2 : RoomOb K (upd (upd H t (.tup [vj, vi])) lc (.lst (vs.set i vj))) p (.ref lo) (.ref lc) := (R.ob.same s1).keep fun u e => up e R.plc
    refine ⟨_, _, rfl, ?_⟩
    refine ⟨_, rfl, g_Room_cells T R2 ⟨_, rfl, _, _, _, j, rfl, rfl, upd_same, ixN_nat (by rw [List.length_set]; omega), rfl, ?_⟩⟩
    have kk : But [lc] H (upd (upd (upd H t (.tup [vj, vi])) lc (.lst (vs.set i vj))) lc (.lst ((vs.set i vj).set j vi))) := (((But.refl _ H).new ht).put (by simp)).put (by simp)
    refine k _ (R.other kk ⟨_, upd_same, ?_⟩) kk
    unfold swp
    rw [getD_lt hi, getD_lt hj]
    have t := But.tupL hl kk
    exact P2.set (CellAt.st _ _ _ _ t ri) j (P2.set (CellAt.st _ _ _ _ t rj) i (Paired.tl CellAt.st t hcs))
abbrev N_Room_many_in : List Str := ["self"]
abbrev P_Room_many_in : List Str := ["self"]
def sp_Room_many_in (K : PySem.W.Frag) : Sp := fun vs H Q E => match vs with
  | [s] => ∃ p lo lc o cs, s = .ref p ∧ RoomS K H p lo lc o cs ∧ Q (.int ((cs.length : Nat) : Int)) H
  | _ => False
def t_Room_many_in (K : PySem.W.Frag) (E : XK) : TS := (tRet (tCB1 (xLen K) (tFl K (tVar 0) "cells")))
theorem pure_Room_many_in {K : PySem.W.Frag} (T : TxtRoom K) : ∀ vs H Q E, sp_Room_many_in K vs H Q E → t_Room_many_in K E { nx := fun _ H' => Q .non H', rt := Q } (start N_Room_many_in vs) H := by
  intro vs H Q E h
  match vs, h with
  | [s], h =>
    obtain ⟨p, lo, lc, o, cs, rfl, R, k⟩ := h
    obtain ⟨vs, hl, hcs⟩ := R.cells
    exact ⟨_, rfl, g_Room_cells T R.ob (lenL hl (by rw [hcs.length]) k)⟩
end Rs

namespace Rs
open PySem PySem.Spec PyProof.Rows L2
abbrev N_Room_put : List Str := ["self", "run", "pair", "at"]
abbrev P_Room_put : List Str := ["self", "run", "pair"]
def sp_Room_put (K : PySem.W.Frag) : Sp := fun vs H Q E => match vs with
  | [s, rv, pv] => ∃ p lo lc o cs ks r pr, s = .ref p ∧ rv = .int r ∧ RoomS K H p lo lc o cs ∧ PairAt H pv pr ∧ (∀ t ∈ o, t.1 < ks.length) ∧ isRow ks pr.2 = true ∧ (∀ c ∈ cs, isRow ks c.2.2 = true) ∧ IsHeap (cless o) c0 cs ∧ cs.length ≤ 1000 ∧
    ∀ cs' H', RoomS K H' p lo lc o cs' → IsHeap (cless o) c0 cs' → cs'.Perm ((r, pr) :: cs) → But [lc] H H' → Q .non H'
  | _ => False
def t_Room_put (K : PySem.W.Frag) (E : XK) : TS := (tSeq (tDrop (tBM K "list" rAppend (tFl K (tVar 0) "cells") (tCons (tTup (tCons (tVar 1) (tCons (tVar 2) tNil))) tNil)))
  (tSeq (tAsg (tOpC xSub (tCB1 (xLen K) (tFl K (tVar 0) "cells")) (.int 1)) (gName 3))
   (tWhile (tAnd (tTest (tOpC xGt (tVar 3) (.int 0))) (tB (tMeth (He.ga K "Room") "is_less" (sp_Room_is_less K) [] E (tVar 0) (tCons (tOp (rIxL K) (tFl K (tVar 0) "cells") (tVar 3)) (tCons (tOp (rIxL K) (tFl K (tVar 0) "cells") (tOpC xDiv (tOpC xSub (tVar 3) (.int 1)) (.int 2))) tNil))))) 
      (tSeq (tDrop (tMeth (He.ga K "Room") "swap" (sp_Room_swap K) [] E (tVar 0) (tCons (tVar 3) (tCons (tOpC xDiv (tOpC xSub (tVar 3) (.int 1)) (.int 2)) tNil))))
      (tAsg (tOpC xDiv (tOpC xSub (tVar 3) (.int 1)) (.int 2)) (gName 3))))))
theorem tp_one {v w : V} {H : Hp} {t : Addr} (h : H t = some (.tup [v, w])) : IsTp H (.ref t) [v, w] := ⟨t, rfl, h⟩
theorem pure_Room_put {K : PySem.W.Frag} (T : TxtRoom K) : ∀ vs H Q E, sp_Room_put K vs H Q E → t_Room_put K E { nx := fun _ H' => Q .non H', rt := Q } (start N_Room_put vs) H := by
  intro vs H Q E h
  match vs, h with
  | [s, rv, pv], h =>
    obtain ⟨p, lo, lc, o, cs, ks, r, pr, rfl, rfl, R, hpr, hcol, hrow, hrows, hheap, hlen, k⟩ := h
    obtain ⟨vs, hl, hcs⟩ := R.cells
    have hvl := hcs.length
    refine ⟨_, rfl, g_Room_cells T R.ob ⟨.inl ⟨rfl, _, SqL.of hl⟩, _, rfl, _, rfl, szle (by show 2 ≤ 100000; decide), fun t ht => ?_⟩⟩
    have s1 := Rs.Same.new (o := .tup [.int r, pv]) ht
    have hl1 := s1 _ _ hl
    refine ⟨_, _, _, rfl, rfl, hl1, szlt (by omega), ?_⟩
    have kk : But [lc] H (upd (upd H t (.tup [.int r, pv])) lc (.lst (vs ++ [.ref t]))) := ((But.refl _ H).new ht).put (by simp)
    have tt := But.tupL hl kk
    have ntl := ne_of_none hl ht
    have hc2 : Lst CellAt (upd (upd H t (.tup [.int r, pv])) lc (.lst (vs ++ [.ref t]))) lc (cs ++ [(r, pr)]) := ⟨_, upd_same, P2.app (Paired.tl CellAt.st tt hcs) (P2.one ⟨pv, tp_one (by rw [upd_ne ntl.symm]; exact upd_same), PairAt.st _ _ _ _ tt hpr⟩)⟩
    have R2 := R.other kk hc2
    obtain ⟨vs2, hl2, hcs2⟩ := hc2
    have hvl2 := hcs2.length
    rw [List.length_append, List.length_singleton] at hvl2
    refine ⟨_, rfl, g_Room_cells T R2.ob (lenL hl2 rfl ⟨_, _, rfl, rfl, ?_⟩)⟩
    have e1 : ((vs2.length : Int) - 1) = ((cs.length : Nat) : Int) := by omega
    dsimp only
    rw [e1]
    refine ⟨fun m σ H' => ∃ (a : Nat) (cs' : List Cell), m = a ∧ σ = [some (.ref p), some (.int r), some pv, some (.int (a : Int))] ∧ RoomS K H' p lo lc o cs' ∧ HeapUp (cless o) c0 cs' a ∧ a < cs'.length ∧ cs'.Perm (cs ++ [(r, pr)]) ∧ But [lc] H H',
      ⟨_, cs.length, _, rfl, rfl, R2, up_start hheap, by simp, .refl _, kk⟩, ?_⟩
    rintro a σ H' ⟨_, cs', rfl, rfl, R', hup, ha, hp', k'⟩
    have okc : ∀ c ∈ cs', isRow ks c.2.2 = true := fun c hc => by
      rcases List.mem_append.mp (hp'.mem_iff.mp hc) with h | h
      · exact hrows c h
      · rw [List.mem_singleton.mp h]; exact hrow
    have fin : IsHeap (cless o) c0 cs' → Q .non H' := fun hh => k cs' H' R' hh (hp'.trans (List.perm_append_comm (l₁ := cs) (l₂ := [(r, pr)]))) k'
    obtain ⟨dx, hob⟩ := R'.ob
    obtain ⟨vs', hl', hcs'⟩ := R'.cells
    refine ⟨_, rfl, _, _, rfl, rfl, _, rfl, ?_⟩
    by_cases h0 : (0 : Int) < (a : Int)
    · rw [decide_eq_true h0]
      have hpar : (a - 1) / 2 < cs'.length := by omega
      have e2 : ((a : Int) - 1) / 2 = (((a - 1) / 2 : Nat) : Int) := by omega
      obtain ⟨va, hva, ra⟩ := P2.get' hcs' (List.getElem?_eq_getElem ha)
      obtain ⟨vp, hvp, rp⟩ := P2.get' hcs' (List.getElem?_eq_getElem hpar)
      refine ⟨_, rfl, p, dx, _, rfl, hob, no_Room_is_less, _, rfl, g_Room_cells T R'.ob ⟨_, rfl, ixL hl' rfl hva ⟨_, rfl, g_Room_cells T R'.ob ⟨_, rfl, _, _, rfl, rfl, _, _, rfl, rfl, div_ok (by decide) (by decide), ixL hl' e2 hvp ?_⟩⟩⟩⟩
      refine ⟨p, lo, _, o, _, _, rfl, R'.ob, R'.ord, ra, rp, cmp_of hcol (okc _ (List.getElem_mem ha)) (okc _ (List.getElem_mem hpar)), _, rfl, ?_⟩
      have g1 : cs'[a] = cs'.getD a c0 := (getD_lt ha).symm
      have g2 : cs'[(a - 1) / 2] = cs'.getD ((a - 1) / 2) c0 := (getD_lt hpar).symm
      rw [g1, g2]
      cases hless : cless o (cs'.getD a c0) (cs'.getD ((a - 1) / 2) c0) with
      | false => exact fin (up_end hup (.inr hless))
      | true =>
        refine ⟨fun σ2 H2 => ∃ (a2 : Nat) (cs2 : List Cell), a2 < a ∧ σ2 = [some (.ref p), some (.int r), some pv, some (.int (a2 : Int))] ∧ RoomS K H2 p lo lc o cs2 ∧ HeapUp (cless o) c0 cs2 a2 ∧ a2 < cs2.length ∧ cs2.Perm (cs ++ [(r, pr)]) ∧ But [lc] H H2, ?_, ?_⟩
        · rintro σ2 H2 ⟨a2, cs2, q1, q2⟩
          exact ⟨a2, q1, a2, cs2, rfl, q2⟩
        · refine ⟨_, rfl, p, dx, _, rfl, hob, no_Room_swap, _, rfl, _, rfl, _, _, rfl, rfl, _, _, rfl, rfl, div_ok (by decide) (by decide), ?_⟩
          refine ⟨p, lo, lc, o, cs', a, (a - 1) / 2, rfl, R', rfl, by dsimp only; rw [e2], ha, hpar, fun H3 R3 k3 => ?_⟩
          refine ⟨_, rfl, _, _, rfl, rfl, _, _, rfl, rfl, div_ok (by decide) (by decide), (a - 1) / 2, _, by omega, by dsimp only; rw [e2] <;> rfl, R3, up_turn (cless_strict hcol) okc hup (by omega) ha hless, by rw [swp_len]; exact hpar, (swp_perm ha hpar).trans hp', k'.trans k3⟩
    · rw [decide_eq_false h0]
      exact fin (up_end hup (.inl (by omega)))
abbrev N_Room_lesser : List Str := ["self", "at", "some", "place"]
abbrev P_Room_lesser : List Str := ["self", "at"]
def LesserIs (o : Ord) (cs : List Cell) (a : Nat) (v : V) : Prop :=
  (v = .non ∧ cs.length ≤ 2 * a + 1) ∨ ∃ b : Nat, v = .int (b : Int) ∧ b < cs.length ∧ 0 < b ∧ (b - 1) / 2 = a ∧ ∀ c, 0 < c → c < cs.length → (c - 1) / 2 = a → cless o (cs.getD c c0) (cs.getD b c0) = false
def sp_Room_lesser (K : PySem.W.Frag) : Sp := fun vs H Q E => match vs with
  | [s, av] => ∃ p lo lc o cs ks a, s = .ref p ∧ av = .int ((a : Nat) : Int) ∧ RoomS K H p lo lc o cs ∧ (∀ t ∈ o, t.1 < ks.length) ∧ (∀ c ∈ cs, isRow ks c.2.2 = true) ∧ cs.length ≤ 1000 ∧
    ∀ v H', LesserIs o cs a v → Same H H' → Q v H'
  | _ => False
def t_Room_lesser (K : PySem.W.Frag) (E : XK) : TS := (tSeq (tAsg (tLc (iTup K (tTup (tCons (tOpC xAdd (tOpD xMul (.int 2) (tVar 1)) (.int 1)) (tCons (tOpC xAdd (tOpD xMul (.int 2) (tVar 1)) (.int 2)) tNil)))) (gName 3) (tTest (tOp xLt (tVar 3) (tCB1 (xLen K) (tFl K (tVar 0) "cells")))) (tVar 3) [3]) (gName 2))
  (tSeq (tIfS (tAnd (tTest (tOpC rEq (tCB1 (xLen K) (tVar 2)) (.int 2))) (tB (tMeth (He.ga K "Room") "is_less" (sp_Room_is_less K) [] E (tVar 0) (tCons (tOp (rIxL K) (tFl K (tVar 0) "cells") (tOpC (rIxL K) (tVar 2) (.int 1))) (tCons (tOp (rIxL K) (tFl K (tVar 0) "cells") (tOpC (rIxL K) (tVar 2) (.int 0))) tNil))))) (tRet (tOpC (rIxL K) (tVar 2) (.int 1))) tNext)
   (tRet (tIf (tTest (tOp (xNeE K) (tVar 2) (tLst tNil))) (tOpC (rIxL K) (tVar 2) (.int 0)) (tC .non)))))
theorem pure_Room_lesser {K : PySem.W.Frag} (T : TxtRoom K) : ∀ vs H Q E, sp_Room_lesser K vs H Q E → t_Room_lesser K E { nx := fun _ H' => Q .non H', rt := Q } (start N_Room_lesser vs) H := by
  intro vs H Q E h
  match vs, h with
  | [s, av], h =>
    obtain ⟨p, lo, lc, o, cs, ks, a, rfl, rfl, R, hcol, hrows, hlen, k⟩ := h
    obtain ⟨vs, hl, hcs⟩ := R.cells
    have hvl := hcs.length
    obtain ⟨dx, hob⟩ := R.ob
    refine ⟨_, rfl, _, _, rfl, rfl, .inl ⟨by decide, by decide⟩, _, _, rfl, rfl, _, rfl, _, _, rfl, rfl, .inl ⟨by decide, by decide⟩, _, _, rfl, rfl, szle (by show 2 ≤ 100000; decide), fun t ht => ⟨t, rfl, ⟨_, SqT.of upd_same⟩, fun D hD => ?_⟩⟩
    dsimp only
    have s1 := Rs.Same.new (o := .tup [.int (2 * (a : Int) + 1), .int (2 * (a : Int) + 2)]) ht
    have st1 : upd H t (.tup [.int (2 * (a : Int) + 1), .int (2 * (a : Int) + 2)]) t = some (.tup [.int (2 * (a : Int) + 1), .int (2 * (a : Int) + 2)]) := upd_same
    have sD := Rs.Same.new (o := .lst []) hD
    refine lc_tup (K := K) (a := t) (xs := [.int (2 * (a : Int) + 1), .int (2 * (a : Int) + 2)]) (fun j H2 => H2 D = some (.lst ((([2 * a + 1, 2 * a + 2].take j).filter fun n => decide (n < cs.length)).map fun (n : Nat) => V.int (n : Int))) ∧ Same (upd H t (.tup [.int (2 * (a : Int) + 1), .int (2 * (a : Int) + 2)])) H2)
      ⟨upd_same, sD⟩ ?_ ?_ ?_
    · rintro j H2 _ ⟨_, s⟩
      exact SqT.of (s _ _ st1)
    · rintro j v H2 hj ⟨hd, s⟩
      have hj2 : j < 2 := (List.getElem?_eq_some_iff.mp hj).1
      obtain ⟨n, en, hn⟩ : ∃ n : Nat, v = .int (n : Int) ∧ [2 * a + 1, 2 * a + 2][j]? = some n := by
        rcases (by omega : j = 0 ∨ j = 1) with rfl | rfl
        · exact ⟨2 * a + 1, by simp at hj; rw [← hj]; congr 1, rfl⟩
        · exact ⟨2 * a + 2, by simp at hj; rw [← hj]; congr 1, rfl⟩
      subst en
      refine ⟨rfl, _, rfl, _, rfl, g_Room_cells T (R.ob.same (s1.trans s)) (lenL ((s1.trans s) _ _ hl) rfl ⟨_, _, rfl, rfl, _, rfl, ?_⟩)⟩
      have lf : ((([2 * a + 1, 2 * a + 2].take j).filter fun n => decide (n < cs.length)).map fun (n : Nat) => V.int (n : Int)).length ≤ 2 := by
        rw [List.length_map]
        have := List.length_filter_le (fun n => decide (n < cs.length)) ([2 * a + 1, 2 * a + 2].take j)
        rw [List.length_take] at this
        simp at this
        omega
      by_cases hlt : (n : Int) < (vs.length : Int)
      · rw [decide_eq_true hlt]
        refine ⟨_, rfl, _, hd, szlt (by omega), ?_, Rs.Same.mut s hD⟩
        have ef : ([n].filter fun n => decide (n < cs.length)) = [n] := by rw [List.filter_cons, decide_eq_true (by omega)] <;> rfl
        rw [upd_same, List.take_succ, hn, List.filter_append]
        show some (HO.lst _) = some (HO.lst (List.map _ (_ ++ ([n].filter fun n => decide (n < cs.length)))))
        rw [ef, List.map_append] <;> rfl
      · rw [decide_eq_false hlt]
        have ef : ([n].filter fun n => decide (n < cs.length)) = [] := by rw [List.filter_cons, decide_eq_false (by omega)] <;> rfl
        refine ⟨?_, s⟩
        rw [hd, List.take_succ, hn, List.filter_append]
        show _ = some (HO.lst (List.map _ (_ ++ ([n].filter fun n => decide (n < cs.length)))))
        rw [ef, List.append_nil]
    · rintro H2 ⟨hd, s⟩
      have s2 : Same H H2 := s1.trans s
      have hl2 := s2 _ _ hl
      have R2 := R.same s2
      have hob2 := s2 _ _ hob
      rw [show [V.int (2 * (a : Int) + 1), V.int (2 * (a : Int) + 2)].length = 2 from rfl] at hd
      have kids : ∀ c, 0 < c → (c - 1) / 2 = a → c = 2 * a + 1 ∨ c = 2 * a + 2 := fun c _ _ => by omega
      refine ⟨_, rfl, lenL hd rfl ⟨rfl, _, rfl, ?_⟩⟩
      have S := cless_strict (ks := ks) hcol
      have last : ∀ (b : Nat) (H3 : Hp), Same H H3 → H3 D = some (.lst [.int (b : Int)]) ∨ (∃ w, H3 D = some (.lst [.int (b : Int), w])) → b < cs.length → 0 < b → (b - 1) / 2 = a → (∀ c, 0 < c → c < cs.length → (c - 1) / 2 = a → cless o (cs.getD c c0) (cs.getD b c0) = false) →
          (tRet (tIf (tTest (tOp (xNeE K) (tVar 2) (tLst tNil))) (tOpC (rIxL K) (tVar 2) (.int 0)) (tC .non))) { nx := fun _ H' => Q .non H', rt := Q } [some (.ref p), some (.int (a : Int)), some (.ref D), none] H3 := fun b H3 s3 hd3 hb hb0 hba hmin => by
        obtain ⟨xs, hx, hx0⟩ : ∃ xs, H3 D = some (.lst xs) ∧ xs[0]? = some (.int (b : Int)) := by
          rcases hd3 with h | ⟨w, h⟩
          · exact ⟨_, h, rfl⟩
          · exact ⟨_, h, rfl⟩
        refine ⟨_, rfl, sz0, fun q hq => neE hx hq (b := true) ?_ ⟨_, rfl, _, rfl, ixL (un hx hq) (j := 0) rfl hx0 (k _ _ (.inr ⟨b, rfl, hb, hb0, hba, hmin⟩) (s3.trans (Rs.Same.new hq)))⟩⟩
        cases xs with
        | nil => simp at hx0
        | cons => rfl
      by_cases h1 : 2 * a + 1 < cs.length
      · by_cases h2 : 2 * a + 2 < cs.length
        · have ef : (([2 * a + 1, 2 * a + 2].take 2).filter fun n => decide (n < cs.length)) = [2 * a + 1, 2 * a + 2] := by
            show ([2 * a + 1, 2 * a + 2].filter fun n => decide (n < cs.length)) = _
            rw [List.filter_cons, List.filter_cons, decide_eq_true h1, decide_eq_true h2] <;> rfl
          rw [ef] at hd ⊢
          have e2 : decide (V.int ((([2 * a + 1, 2 * a + 2].map fun (n : Nat) => V.int (n : Int)).length : Nat) : Int) = V.int 2) = true := decide_eq_true rfl
          rw [e2]
          obtain ⟨v1, hv1, r1⟩ := P2.get' hcs (List.getElem?_eq_getElem h1)
          obtain ⟨v2, hv2, r2⟩ := P2.get' hcs (List.getElem?_eq_getElem h2)
          have tH := TupLe.same s2
          refine ⟨_, rfl, p, dx, _, rfl, hob2, no_Room_is_less, _, rfl, g_Room_cells T R2.ob ⟨_, rfl, ixL hd (j := 1) rfl rfl (ixL hl2 rfl hv2 ⟨_, rfl, g_Room_cells T R2.ob ⟨_, rfl, ixL hd (j := 0) rfl rfl (ixL hl2 rfl hv1 ?_)⟩⟩)⟩⟩
          refine ⟨p, lo, _, o, _, _, rfl, R2.ob, R2.ord, CellAt.st _ _ _ _ tH r2, CellAt.st _ _ _ _ tH r1, cmp_of hcol (hrows _ (List.getElem_mem h2)) (hrows _ (List.getElem_mem h1)), _, rfl, ?_⟩
          have g1 : cs[2 * a + 1] = cs.getD (2 * a + 1) c0 := (getD_lt h1).symm
          have g2 : cs[2 * a + 2] = cs.getD (2 * a + 2) c0 := (getD_lt h2).symm
          rw [g1, g2]
          cases hless : cless o (cs.getD (2 * a + 2) c0) (cs.getD (2 * a + 1) c0) with
          | true =>
            refine ⟨_, rfl, ixL hd (j := 1) rfl rfl (k _ _ (.inr ⟨2 * a + 2, rfl, h2, by omega, by omega, fun c c1 c2 c3 => ?_⟩) s2)⟩
            rcases kids c c1 c3 with rfl | rfl
            · exact S.asym _ _ (hrows _ (getD_mem h2)) (hrows _ (getD_mem h1)) hless
            · exact cless_irrefl o _
          | false =>
            refine last (2 * a + 1) H2 s2 (.inr ⟨_, hd⟩) h1 (by omega) (by omega) fun c c1 c2 c3 => ?_
            rcases kids c c1 c3 with rfl | rfl
            · exact cless_irrefl o _
            · exact hless
        · have ef : (([2 * a + 1, 2 * a + 2].take 2).filter fun n => decide (n < cs.length)) = [2 * a + 1] := by
            show ([2 * a + 1, 2 * a + 2].filter fun n => decide (n < cs.length)) = _
            rw [List.filter_cons, List.filter_cons, decide_eq_true h1, decide_eq_false h2] <;> rfl
          rw [ef] at hd ⊢
          have e2 : decide (V.int ((([2 * a + 1].map fun (n : Nat) => V.int (n : Int)).length : Nat) : Int) = V.int 2) = false := decide_eq_false (by intro z; injection z with z; exact absurd z (by show ¬ ((1 : Nat) : Int) = 2; decide))
          rw [e2]
          refine last (2 * a + 1) H2 s2 (.inl hd) h1 (by omega) (by omega) fun c c1 c2 c3 => ?_
          rcases kids c c1 c3 with rfl | rfl
          · exact cless_irrefl o _
          · omega
      · have ef : (([2 * a + 1, 2 * a + 2].take 2).filter fun n => decide (n < cs.length)) = [] := by
          show ([2 * a + 1, 2 * a + 2].filter fun n => decide (n < cs.length)) = _
          rw [List.filter_cons, List.filter_cons, decide_eq_false h1, decide_eq_false (by omega)] <;> rfl
        rw [ef] at hd ⊢
        have e2 : decide (V.int (((([] : List Nat).map fun (n : Nat) => V.int (n : Int)).length : Nat) : Int) = V.int 2) = false := by decide
        rw [e2]
        exact ⟨_, rfl, sz0, fun q hq => neE hd hq (b := false) rfl ⟨_, rfl, k _ _ (.inl ⟨rfl, by omega⟩) (s2.trans (Rs.Same.new hq))⟩⟩
abbrev N_Room_take : List Str := ["self", "found", "at", "below"]
abbrev P_Room_take : List Str := ["self"]
def sp_Room_take (K : PySem.W.Frag) : Sp := fun vs H Q E => match vs with
  | [s] => ∃ p lo lc o cs ks, s = .ref p ∧ RoomS K H p lo lc o cs ∧ (∀ t ∈ o, t.1 < ks.length) ∧ (∀ c ∈ cs, isRow ks c.2.2 = true) ∧ IsHeap (cless o) c0 cs ∧ 0 < cs.length ∧ cs.length ≤ 1000 ∧
    ∀ cs' v H', RoomS K H' p lo lc o cs' → IsHeap (cless o) c0 cs' → (cs.getD 0 c0 :: cs').Perm cs → CellAt H' v (cs.getD 0 c0) → But [lc] H H' → Q v H'
  | _ => False
def t_Room_take (K : PySem.W.Frag) (E : XK) : TS := (tSeq (tDrop (tMeth (He.ga K "Room") "swap" (sp_Room_swap K) [] E (tVar 0) (tConsC (.int 0) (tCons (tOpC xSub (tCB1 (xLen K) (tFl K (tVar 0) "cells")) (.int 1)) tNil))))
  (tSeq (tAsg (tBM0 K "list" rPop (tFl K (tVar 0) "cells")) (gName 1))
   (tSeq (tAsg (tC (.int 0)) (gName 2))
    (tSeq (tAsg (tMeth (He.ga K "Room") "lesser" (sp_Room_lesser K) [] E (tVar 0) (tCons (tVar 2) tNil)) (gName 3))
     (tSeq (tWhile (tAnd (tTest (tOpC rNotN (tVar 3) .non)) (tB (tMeth (He.ga K "Room") "is_less" (sp_Room_is_less K) [] E (tVar 0) (tCons (tOp (rIxL K) (tFl K (tVar 0) "cells") (tVar 3)) (tCons (tOp (rIxL K) (tFl K (tVar 0) "cells") (tVar 2)) tNil))))) 
        (tSeq (tDrop (tMeth (He.ga K "Room") "swap" (sp_Room_swap K) [] E (tVar 0) (tCons (tVar 2) (tCons (tVar 3) tNil))))
        (tSeq (tAsg (tVar 3) (gName 2))
         (tAsg (tMeth (He.ga K "Room") "lesser" (sp_Room_lesser K) [] E (tVar 0) (tCons (tVar 2) tNil)) (gName 3)))))
      (tRet (tVar 1)))))))
theorem pure_Room_take {K : PySem.W.Frag} (T : TxtRoom K) : ∀ vs H Q E, sp_Room_take K vs H Q E → t_Room_take K E { nx := fun _ H' => Q .non H', rt := Q } (start N_Room_take vs) H := by
  intro vs H Q E h
  match vs, h with
  | [s], h =>
    obtain ⟨p, lo, lc, o, cs, ks, rfl, R, hcol, hrows, hheap, hpos, hlen, k⟩ := h
    obtain ⟨vs, hl, hcs⟩ := R.cells
    have hvl := hcs.length
    obtain ⟨dx, hob⟩ := R.ob
    have en : ((vs.length : Int) - 1) = ((cs.length - 1 : Nat) : Int) := by omega
    refine ⟨_, rfl, p, dx, _, rfl, hob, no_Room_swap, _, rfl, g_Room_cells T R.ob (lenL hl rfl ⟨_, _, rfl, rfl, ?_⟩)⟩
    refine ⟨p, lo, lc, o, cs, 0, cs.length - 1, rfl, R, rfl, by dsimp only; rw [en], hpos, by omega, fun H1 R1 k1 => ?_⟩
    obtain ⟨vs1, hl1, hcs1⟩ := R1.cells
    have hvl1 := hcs1.length
    rw [swp_len] at hvl1
    have hlast : (swp c0 cs 0 (cs.length - 1))[cs.length - 1]? = some (cs.getD 0 c0) := by
      unfold swp
      rw [List.getElem?_set_self (by rw [List.length_set]; omega)]
    obtain ⟨v, hv, rv⟩ := P2.get' hcs1 hlast
    refine ⟨_, rfl, g_Room_cells T R1.ob ⟨.inl ⟨rfl, _, SqL.of hl1⟩, _, _, v, rfl, rfl, hl1, by rw [hvl1]; exact hv, ?_⟩⟩
    have k2 : But [lc] H1 (upd H1 lc (.lst vs1.dropLast)) := (But.refl _ H1).put (by simp)
    have dl : ∀ {α β : Type} {F : α → β → Prop} {l : List α} {m : List β}, Paired F l m → Paired F l.dropLast m.dropLast := fun h => by
      rw [List.dropLast_eq_take, List.dropLast_eq_take, ← h.length]
      exact P2.take _ h
    have t2 := But.tupL hl1 k2
    have R2 := R1.other k2 (cs' := (swp c0 cs 0 (cs.length - 1)).dropLast) ⟨_, upd_same, Paired.tl CellAt.st t2 (dl hcs1)⟩
    have rv2 := CellAt.st _ _ _ _ t2 rv
    -- what is left, and what goes
    have hperm : (cs.getD 0 c0 :: (swp c0 cs 0 (cs.length - 1)).dropLast).Perm cs := by
      have hne : swp c0 cs 0 (cs.length - 1) ≠ [] := by intro z; have := congrArg List.length z; rw [swp_len, List.length_nil] at this; omega
      have e1 := List.dropLast_concat_getLast hne
      have e2 : (swp c0 cs 0 (cs.length - 1)).getLast hne = cs.getD 0 c0 := by
        rw [List.getLast_eq_getElem]
        have := hlast
        rw [List.getElem?_eq_getElem (by rw [swp_len]; omega)] at this
        have z := Option.some.inj this
        rw [← z]
        congr 1
        rw [swp_len]
      rw [e2] at e1
      refine List.Perm.trans ?_ (swp_perm (d := c0) hpos (by omega : cs.length - 1 < cs.length))
      rw [← e1]
      refine List.Perm.trans (List.Perm.of_eq ?_) (List.perm_append_comm (l₁ := [cs.getD 0 c0]) (l₂ := (swp c0 cs 0 (cs.length - 1)).dropLast))
      rw [e1]
      rfl
    have hok : ∀ cs' : List Cell, cs'.Perm (swp c0 cs 0 (cs.length - 1)).dropLast → ∀ c ∈ cs', isRow ks c.2.2 = true := fun cs' pm c hc => hrows c (hperm.mem_iff.mp (List.mem_cons_of_mem _ (pm.mem_iff.mp hc)))
    have hl3 : (swp c0 cs 0 (cs.length - 1)).dropLast.length = cs.length - 1 := by rw [List.length_dropLast, swp_len]
    obtain ⟨dx2, hob2⟩ := R2.ob
    refine ⟨_, rfl, p, dx2, _, rfl, hob2, no_Room_lesser, _, rfl, p, lo, lc, o, _, ks, 0, rfl, rfl, R2, hcol, hok _ (.refl _), by rw [hl3]; omega, fun below H3 hlow s3 => ?_⟩
    refine ⟨fun m σ H' => ∃ (a : Nat) (below : V) (cs' : List Cell), m = cs.length - a ∧ σ = [some (.ref p), some v, some (.int (a : Int)), some below] ∧ RoomS K H' p lo lc o cs' ∧ HeapDown (cless o) c0 cs' a ∧ LesserIs o cs' a below ∧ cs'.Perm (swp c0 cs 0 (cs.length - 1)).dropLast ∧ But [lc] H H' ∧ CellAt H' v (cs.getD 0 c0) ∧ (a < cs'.length ∨ a = 0),
      ⟨_, 0, below, _, rfl, rfl, R2.same s3, down_start hheap hpos, hlow, .refl _, (k1.trans k2).trans (But.same s3), CellAt.st _ _ _ _ (TupLe.same s3) rv2, .inr rfl⟩, ?_⟩
    rintro m σ H' ⟨a, below, cs', rfl, rfl, R', hdown, hlow, hpm, k', rv', ha⟩
    have S := cless_strict (ks := ks) hcol
    have okc := hok cs' hpm
    have hl' := hpm.length_eq
    rw [hl3] at hl'
    have fin : IsHeap (cless o) c0 cs' → (tRet (tVar 1)) { nx := fun _ H' => Q .non H', rt := Q } [some (.ref p), some v, some (.int (a : Int)), some below] H' := fun hh => ⟨_, rfl, k cs' v H' R' hh ((hpm.cons _).trans hperm) rv' k'⟩
    refine ⟨_, rfl, rfl, _, rfl, ?_⟩
    rcases hlow with ⟨rfl, hnone⟩ | ⟨b, rfl, hb, hb0, hba, hmin⟩
    · have e1 : (!decide (V.non = V.non)) = false := rfl
      rw [e1]
      exact fin (down_end S okc hdown fun c c1 c2 c3 => by omega)
    · have e1 : (!decide (V.int (b : Int) = V.non)) = true := rfl
      rw [e1]
      have hal : a < cs'.length := by omega
      obtain ⟨dx', hob'⟩ := R'.ob
      obtain ⟨vs', hl', hcs'⟩ := R'.cells
      obtain ⟨vb, hvb, rb⟩ := P2.get' hcs' (List.getElem?_eq_getElem hb)
      obtain ⟨va, hva, ra⟩ := P2.get' hcs' (List.getElem?_eq_getElem hal)
      refine ⟨_, rfl, p, dx', _, rfl, hob', no_Room_is_less, _, rfl, g_Room_cells T R'.ob ⟨_, rfl, ixL hl' rfl hvb ⟨_, rfl, g_Room_cells T R'.ob ⟨_, rfl, ixL hl' rfl hva ?_⟩⟩⟩⟩
      refine ⟨p, lo, _, o, _, _, rfl, R'.ob, R'.ord, rb, ra, cmp_of hcol (okc _ (List.getElem_mem hb)) (okc _ (List.getElem_mem hal)), _, rfl, ?_⟩
      have g1 : cs'[b] = cs'.getD b c0 := (getD_lt hb).symm
      have g2 : cs'[a] = cs'.getD a c0 := (getD_lt hal).symm
      rw [g1, g2]
      cases hless : cless o (cs'.getD b c0) (cs'.getD a c0) with
      | false => exact fin (down_end S okc hdown fun c c1 c2 c3 => ⟨b, hb, hmin c c1 c2 c3, hless⟩)
      | true =>
        refine ⟨fun σ2 H2 => ∃ (a2 : Nat) (below2 : V) (cs2 : List Cell), cs.length - a2 < cs.length - a ∧ σ2 = [some (.ref p), some v, some (.int (a2 : Int)), some below2] ∧ RoomS K H2 p lo lc o cs2 ∧ HeapDown (cless o) c0 cs2 a2 ∧ LesserIs o cs2 a2 below2 ∧ cs2.Perm (swp c0 cs 0 (cs.length - 1)).dropLast ∧ But [lc] H H2 ∧ CellAt H2 v (cs.getD 0 c0) ∧ (a2 < cs2.length ∨ a2 = 0), ?_, ?_⟩
        · rintro σ2 H2 ⟨a2, below2, cs2, q1, q2⟩
          exact ⟨_, q1, a2, below2, cs2, rfl, q2⟩
        · refine ⟨_, rfl, p, dx', _, rfl, hob', no_Room_swap, _, rfl, _, rfl, p, lo, lc, o, cs', a, b, rfl, R', rfl, rfl, hal, hb, fun H4 R4 k4 => ?_⟩
          obtain ⟨dx4, hob4⟩ := R4.ob
          have pm4 : (swp c0 cs' a b).Perm (swp c0 cs 0 (cs.length - 1)).dropLast := (swp_perm hal hb).trans hpm
          refine ⟨_, rfl, _, rfl, p, dx4, _, rfl, hob4, no_Room_lesser, _, rfl, p, lo, lc, o, _, ks, b, rfl, rfl, R4, hcol, hok _ pm4, by rw [swp_len]; omega, fun below2 H5 hlow2 s5 => ?_⟩
          refine ⟨b, below2, _, by omega, rfl, R4.same s5, down_turn S okc hdown hb0 hb hba hmin hless, hlow2, pm4, (k'.trans k4).trans (But.same s5), CellAt.st _ _ _ _ ((But.tupL hl' k4).trans (TupLe.same s5)) rv', .inl (by rw [swp_len]; exact hb)⟩
end Rs

namespace Rs
open PySem PySem.Spec PyProof.Rows L2
def OptAt : Rel (Option Pr) := fun H v q => match q with
  | none => v = .non
  | some p => PairAt H v p
theorem OptAt.st : Stable OptAt := fun H H' v q t h => match q, h with
  | none, h => h
  | some p, h => PairAt.st H H' v p t h
structure MakerS (K : PySem.W.Frag) (H : Hp) (p lo pr lc : Addr) (o : Ord) (size : Int) (cs : List Cell) (run : Int) (last : Option Pr) : Prop where
  ob : ∃ vl, MakerOb K H p (.ref lo) (.int size) (.ref pr) (.int run) vl ∧ OptAt H vl last
  room : RoomS K H pr lo lc o cs
  ne : p ≠ pr
theorem MakerOb.keep {K : PySem.W.Frag} {H H' : Hp} {p : Addr} {x0 x1 x2 x3 x4 : V} (h : MakerOb K H p x0 x1 x2 x3 x4) (k : ∀ o, H p = some o → H' p = some o) : MakerOb K H' p x0 x1 x2 x3 x4 := let ⟨dx, e⟩ := h; ⟨dx, k _ e⟩
theorem MakerS.same {K : PySem.W.Frag} {H H' : Hp} {p lo pr lc : Addr} {o : Ord} {size : Int} {cs : List Cell} {run : Int} {last : Option Pr} (h : MakerS K H p lo pr lc o size cs run last) (s : Same H H') : MakerS K H' p lo pr lc o size cs run last := by
  obtain ⟨vl, ob, hl⟩ := h.ob
  exact ⟨⟨vl, ob.keep fun u => s p u, OptAt.st _ _ _ _ (TupLe.same s) hl⟩, h.room.same s, h.ne⟩
theorem MakerS.plc {K : PySem.W.Frag} {H : Hp} {p lo pr lc : Addr} {o : Ord} {size : Int} {cs : List Cell} {run : Int} {last : Option Pr} (h : MakerS K H p lo pr lc o size cs run last) : p ≠ lc ∧ p ≠ lo := by
  obtain ⟨vl, ⟨dx, e⟩, _⟩ := h.ob
  obtain ⟨vs, e2, _⟩ := h.room.cells
  obtain ⟨os, e3, _⟩ := h.room.ord
  exact ⟨ne_of e e2 (by intro z; cases z), ne_of e e3 (by intro z; cases z)⟩
theorem MakerS.tup {K : PySem.W.Frag} {H H' : Hp} {p lo pr lc : Addr} {o : Ord} {size : Int} {cs : List Cell} {run : Int} {last : Option Pr} (h : MakerS K H p lo pr lc o size cs run last) (k : But [p, lc] H H') : TupLe H H' := fun c xs e => by
  obtain ⟨vl, ⟨dx, e1⟩, _⟩ := h.ob
  obtain ⟨vs, e2, _⟩ := h.room.cells
  exact k c _ e (nn (ne_of e e1 (by intro z; cases z)) (ne_of e e2 (by intro z; cases z)))
theorem MakerS.roomed {K : PySem.W.Frag} {H H' : Hp} {p lo pr lc : Addr} {o : Ord} {size : Int} {cs cs' : List Cell} {run : Int} {last : Option Pr} (h : MakerS K H p lo pr lc o size cs run last) (k : But [lc] H H') (R : RoomS K H' pr lo lc o cs') : MakerS K H' p lo pr lc o size cs' run last := by
  obtain ⟨vl, ob, hl⟩ := h.ob
  exact ⟨⟨vl, ob.keep fun u e => k _ _ e (ne1 h.plc.1), OptAt.st _ _ _ _ (h.tup (k.wide fun x hx => by rw [List.mem_singleton] at hx; subst hx; simp)) hl⟩, R, h.ne⟩
def late (o : Ord) (q : Pr) (last : Option Pr) : Bool := match last with
  | none => false
  | some l => before o q l
end Rs

namespace Rs
open PySem PySem.Spec PyProof.Rows L2
def srt (o : Ord) : List Pr → List Pr
  | [] => []
  | x :: xs => mrg o [x] (srt o xs)
theorem srt_perm (o : Ord) : ∀ xs, (srt o xs).Perm xs
  | [] => .nil
  | x :: xs => (mrg_perm o (srt o xs) [x]).trans ((srt_perm o xs).cons x)
theorem srt_up {ks : List Str} {o : Ord} (ho : ∀ t ∈ o, t.1 < ks.length) : ∀ xs, Fine ks xs → Up o (srt o xs)
  | [], _ => .nil
  | x :: xs, f => by
    have fx : Fine ks xs := f.sub (List.sublist_cons_self ..)
    refine mrg_up ho (srt o xs) [x] (f.perm ?_) (List.pairwise_singleton _ _) (srt_up ho xs fx)
    exact (srt_perm o xs).cons x
def mn (o : Ord) (xs : List Pr) : Pr := (srt o xs).getD 0 c0.2
theorem mn_mem (o : Ord) {xs : List Pr} (h : xs ≠ []) : mn o xs ∈ xs := by
  have p := srt_perm o xs
  unfold mn
  cases e : srt o xs with
  | nil => rw [e] at p; exact absurd p.nil_eq.symm h
  | cons y ys =>
    rw [e] at p
    exact p.mem_iff.mp (List.mem_cons_self ..)
theorem mn_first {ks : List Str} {o : Ord} (ho : ∀ t ∈ o, t.1 < ks.length) {xs : List Pr} (f : Fine ks xs) {x : Pr} (hx : x ∈ xs) (n : x ≠ mn o xs) : before o (mn o xs) x = true := by
  have p := srt_perm o xs
  have u := srt_up ho xs f
  unfold mn at n ⊢
  cases e : srt o xs with
  | nil => rw [e] at p; rw [p.nil_eq.symm] at hx; simp at hx
  | cons y ys =>
    rw [e] at p u n
    rcases List.mem_cons.mp (p.mem_iff.mpr hx) with h | h
    · exact absurd h n
    · exact List.rel_of_pairwise_cons u h
theorem mn_eq {ks : List Str} {o : Ord} (ho : ∀ t ∈ o, t.1 < ks.length) {xs : List Pr} (f : Fine ks xs) {x : Pr} (hx : x ∈ xs) (h : ∀ y ∈ xs, before o y x = false) : x = mn o xs := by
  by_cases n : x = mn o xs
  · exact n
  · have t := mn_first ho f hx n
    rw [h _ (mn_mem o (by intro e; rw [e] at hx; simp at hx))] at t
    cases t
def outN (n : Int) (xs : List Pr) : List Pr := xs.filter fun q => decide (q.1 ≠ n)
def fillL (o : Ord) (size : Int) (last : Option Pr) : List Pr → List Pr → List Pr → List Pr × List Pr × List Pr
  | [], h, l => ([], h, l)
  | p :: left, h, l => if ((h.length : Int) + (l.length : Int) < size) then (if late o p last then fillL o size last left h (l ++ [p]) else fillL o size last left (h ++ [p]) l) else (p :: left, h, l)
def inner (o : Ord) (size : Int) : Nat → List Pr → List Pr → List Pr → List Pr → List Pr × List Pr × List Pr
  | 0, left, _, l, run => (left, l, run)
  | n + 1, left, h, l, run =>
    if (fillL o size run.getLast? left h l).2.1 = [] then ((fillL o size run.getLast? left h l).1, (fillL o size run.getLast? left h l).2.2, run)
    else inner o size n (fillL o size run.getLast? left h l).1 (outN (mn o (fillL o size run.getLast? left h l).2.1).1 (fillL o size run.getLast? left h l).2.1) (fillL o size run.getLast? left h l).2.2 (run ++ [mn o (fillL o size run.getLast? left h l).2.1])
def outer (o : Ord) (size : Int) : Nat → List Pr → List Pr → List (List Pr) → List (List Pr)
  | 0, _, _, found => found
  | n + 1, left, l, found => if left = [] ∧ l = [] then found else
    outer o size n (inner o size (left.length + l.length + 1) left l [] []).1 (inner o size (left.length + l.length + 1) left l [] []).2.1 (found ++ [(inner o size (left.length + l.length + 1) left l [] []).2.2])
end Rs

namespace Rs
open PySem PySem.Spec PyProof.Rows L2
def cells (k : Int) (h l : List Pr) : List Cell := h.map (fun q => (k, q)) ++ l.map fun q => (k + 1, q)
theorem cells_len {k : Int} {h l : List Pr} : (cells k h l).length = h.length + l.length := by simp [cells]
theorem cells_row {ks : List Str} {k : Int} {h l : List Pr} {cs : List Cell} (p : cs.Perm (cells k h l)) (r : ∀ q ∈ h ++ l, isRow ks q.2 = true) : ∀ c ∈ cs, isRow ks c.2.2 = true := fun c hc => by
  rcases List.mem_append.mp (p.mem_iff.mp hc) with z | z
  · obtain ⟨q, hq, rfl⟩ := List.mem_map.mp z
    exact r q (List.mem_append_left _ hq)
  · obtain ⟨q, hq, rfl⟩ := List.mem_map.mp z
    exact r q (List.mem_append_right _ hq)
theorem cells_min {ks : List Str} {o : Ord} (ho : ∀ t ∈ o, t.1 < ks.length) {k : Int} {h l : List Pr} {cs : List Cell} (f : Fine ks (h ++ l)) (p : cs.Perm (cells k h l)) (hh : IsHeap (cless o) c0 cs) (n : h ≠ []) : 0 < cs.length ∧ cs.getD 0 c0 = (k, mn o h) := by
  have hl := p.length_eq
  rw [cells_len] at hl
  have hpos : 0 < h.length := List.length_pos_iff.mpr n
  have hrows := cells_row p f.row
  have hc : 0 < cs.length := by omega
  have hmin := heap_min (cless_strict (ks := ks) ho) hrows hh (cless_irrefl o)
  have low : ∀ c ∈ cs, cless o c (cs.getD 0 c0) = false := fun c hc => by
    obtain ⟨i, hi, e⟩ := List.mem_iff_getElem.mp hc
    have t := hmin i hi
    rw [getD_lt hi, e] at t
    exact t
  refine ⟨hc, ?_⟩
  have hm : cs.getD 0 c0 ∈ cells k h l := p.mem_iff.mp (getD_mem hc)
  have inh : ∀ q ∈ h, ((k, q) : Cell) ∈ cs := fun q hq => p.mem_iff.mpr (List.mem_append_left _ (List.mem_map_of_mem hq))
  rcases List.mem_append.mp hm with z | z
  · obtain ⟨q, hq, e⟩ := List.mem_map.mp z
    rw [← e] at low ⊢
    congr 1
    refine mn_eq ho f.left hq fun y hy => ?_
    have t := low _ (inh y hy)
    unfold cless at t
    rw [if_neg (fun z => z rfl)] at t
    exact t
  · obtain ⟨q, hq, e⟩ := List.mem_map.mp z
    exfalso
    have t := low _ (inh _ (mn_mem o n))
    rw [← e] at t
    unfold cless at t
    rw [if_pos (by show k ≠ k + 1; omega)] at t
    have := of_decide_eq_false t
    have h2 : ¬ k < k + 1 := this
    omega
def keyD : Key → PyData
  | .inl i => .int i
  | .inr s => .str s
def rowD (r : Row) : PyData := .tuple (r.map keyD)
def pairD (p : Pr) : PyData := .tuple [.int p.1, rowD p.2]
section
variable {K : PySem.W.Frag} {H : Hp}
theorem key_dp (x : Key) : Dp K H (kV x) (keyD x) := by
  cases x
  · exact .int _
  · exact .str _
theorem keys_dp : ∀ r : Row, DpAll K H (r.map kV) (r.map keyD)
  | [] => .nil
  | x :: r => .cons (key_dp x) (keys_dp r)
theorem row_dp {v : V} {r : Row} (h : RowAt H v r) : Dp K H v (rowD r) := by
  obtain ⟨a, rfl, e⟩ := h
  exact .tup (SqT.of e) (keys_dp r)
theorem pair_dp {v : V} {p : Pr} (h : PairAt H v p) : Dp K H v (pairD p) := by
  obtain ⟨w, ⟨a, rfl, e⟩, hr⟩ := h
  exact .tup (SqT.of e) (.cons (.int _) (.cons (row_dp hr) .nil))
end
def okD : Nat → PyData → Prop
  | 0, _ => False
  | _ + 1, .none => True
  | _ + 1, .bool _ => True
  | _ + 1, .int _ => True
  | _ + 1, .str x => PyData.strOk x = true
  | n + 1, .list ds => ds.length ≤ 100000 ∧ ∀ d ∈ ds, okD n d
  | n + 1, .tuple ds => ds.length ≤ 100000 ∧ ∀ d ∈ ds, okD n d
  | _ + 1, _ => False
theorem okD.up : ∀ {n : Nat} {d : PyData}, okD n d → okD (n + 1) d
  | 0, _, h => h.elim
  | n + 1, .none, _ => trivial
  | n + 1, .bool _, _ => trivial
  | n + 1, .int _, _ => trivial
  | n + 1, .str _, h => h
  | n + 1, .list ds, h => ⟨h.1, fun d hd => okD.up (h.2 d hd)⟩
  | n + 1, .tuple ds, h => ⟨h.1, fun d hd => okD.up (h.2 d hd)⟩
theorem okD.ups {n : Nat} {d : PyData} (h : okD n d) : ∀ k, okD (n + k) d
  | 0 => h
  | k + 1 => okD.up (okD.ups h k)
theorem letters_ok : ∀ c ∈ letters, c < 0x110000 := by decide +kernel
theorem value_ok {k : Str} {x : Key} (h : isValue k x = true) (n : Nat) : okD (n + 1) (keyD x) := by
  cases x with
  | inl i => trivial
  | inr s =>
    simp only [isValue, Bool.and_eq_true, List.all_eq_true, decide_eq_true_eq] at h
    show PyData.strOk s = true
    unfold PyData.strOk
    rw [Array.all_eq_true_iff_forall_mem]
    intro c hc
    exact decide_eq_true (letters_ok c (h.2.2 c (Array.mem_toList_iff.mpr hc)))
theorem row_ok {ks : List Str} {r : Row} (h : isRow ks r = true) (hk : ks.length ≤ 100000) (n : Nat) : okD (n + 2) (rowD r) := ⟨by rw [List.length_map, isRow_len h]; exact hk, fun d hd => by
  obtain ⟨x, hx, rfl⟩ := List.mem_map.mp hd
  obtain ⟨i, hi, e⟩ := List.mem_iff_getElem.mp hx
  have hi2 : i < ks.length := by rw [← isRow_len h]; exact hi
  have v := isRow_val h hi2
  have e2 : kcol r i = x := by
    have q := kcol_get hi
    rw [List.getElem?_eq_getElem hi, e] at q
    exact (Option.some.inj q).symm
  rw [e2] at v
  exact value_ok v n⟩
theorem pair_ok {ks : List Str} {p : Pr} (h : isRow ks p.2 = true) (hk : ks.length ≤ 100000) (n : Nat) : okD (n + 3) (pairD p) := ⟨by show 2 ≤ 100000; decide, fun d hd => by
  rcases List.mem_cons.mp hd with e | e
  · subst e; trivial
  · rw [List.mem_singleton.mp e]; exact row_ok h hk n⟩
end Rs

namespace Rs
open PySem PySem.Spec PyProof.Rows L2
def RunAt (H0 : Hp) (S : List Addr) : Rel (List Pr) := fun H v xs => ∃ l, v = .ref l ∧ H0 l = none ∧ l ∉ S ∧ Lst PairAt H l xs
section
variable {H0 H H' : Hp} {S S' : List Addr} {v : V} {xs : List Pr} {x l lf : Addr} {found : List (List Pr)}
theorem RunAt.keep (h : RunAt H0 S H v xs) (t : TupLe H H') (k : ∀ l, H0 l = none → l ∉ S → ∀ o, H l = some o → H' l = some o) : RunAt H0 S H' v xs := let ⟨l, e, a, b, c⟩ := h; ⟨l, e, a, b, c.keep PairAt.st t (k l a b)⟩
theorem RunAt.sub (h : RunAt H0 S H v xs) (k : ∀ y ∈ S', y ∈ S) : RunAt H0 S' H v xs := let ⟨l, e, a, b, c⟩ := h; ⟨l, e, a, fun z => b (k _ z), c⟩
theorem RunAt.new (h : RunAt H0 S H v xs) (hx : H x = none) : RunAt H0 (x :: S) H v xs := by
  obtain ⟨l, e, a, b, c⟩ := h
  refine ⟨l, e, a, fun z => ?_, c⟩
  obtain ⟨vs, q, _⟩ := c
  rcases List.mem_cons.mp z with z | z
  · rw [z, hx] at q; cases q
  · exact b z
theorem Runs.sub (h : Lst (RunAt H0 S) H lf found) (k : ∀ y ∈ S', y ∈ S) : Lst (RunAt H0 S') H lf found := let ⟨vs, a, b⟩ := h; ⟨vs, a, P2.mono (fun _ _ q => q.sub k) b⟩
theorem Runs.new (h : Lst (RunAt H0 S) H lf found) (hx : H x = none) : Lst (RunAt H0 (x :: S)) H lf found := let ⟨vs, a, b⟩ := h; ⟨vs, a, P2.mono (fun _ _ q => q.new hx) b⟩
theorem Runs.same (h : Lst (RunAt H0 S) H lf found) (s : Same H H') : Lst (RunAt H0 S) H' lf found := let ⟨vs, a, b⟩ := h; ⟨vs, s _ _ a, P2.mono (fun _ _ q => q.keep (TupLe.same s) fun l _ _ => s l) b⟩
theorem Runs.put {ys : List V} {u : HO} (h : Lst (RunAt H0 S) H lf found) (hx : H x = some (.lst ys)) (hs : x ∈ S) (n : lf ≠ x) : Lst (RunAt H0 S) (upd H x u) lf found := let ⟨vs, a, b⟩ := h; ⟨vs, up a n, P2.mono (fun _ _ q => q.keep ((TupLe.refl H).list hx) fun l _ hl o e => up e fun z => hl (by rw [z]; exact hs)) b⟩
theorem Lst.off {ys : List V} {u : HO} (h : Lst PairAt H l xs) (hx : H x = some (.lst ys)) (n : l ≠ x) : Lst PairAt (upd H x u) l xs := h.keep PairAt.st ((TupLe.refl H).list hx) fun o e => up e n
theorem Lst.on {ys vs : List V} (hx : H l = some (.lst ys)) (p : Paired (PairAt H) vs xs) : Lst PairAt (upd H l (.lst vs)) l xs := ⟨vs, upd_same, Paired.tl PairAt.st ((TupLe.refl H).list hx) p⟩
end
structure LR (H0 H : Hp) (a b c d e : Addr) (left here late : List Pr) (found : List (List Pr)) (run : List Pr) : Prop where
  same : Same H0 H
  fr : ∀ x ∈ [a, b, c, d, e], H0 x = none
  nd : [a, b, c, d, e].Nodup
  la : Lst PairAt H a left
  lb : Lst PairAt H b here
  lc : Lst PairAt H c late
  ld : Lst (RunAt H0 [a, b, c, d, e]) H d found
  le : Lst PairAt H e run
section
variable {H0 H H' : Hp} {a b c d e : Addr} {left here late left' here' late' : List Pr} {found : List (List Pr)} {run run' : List Pr} {vs : List V}
theorem nd5 (h : [a, b, c, d, e].Nodup) : ((a ≠ b ∧ a ≠ c ∧ a ≠ d ∧ a ≠ e) ∧ (b ≠ c ∧ b ≠ d ∧ b ≠ e) ∧ (c ≠ d ∧ c ≠ e) ∧ d ≠ e) := by simpa using h
theorem LR.on (L : LR H0 H a b c d e left here late found run) (s : Same H H') : LR H0 H' a b c d e left here late found run := ⟨L.same.trans s, L.fr, L.nd, L.la.same PairAt.st s, L.lb.same PairAt.st s, L.lc.same PairAt.st s, Runs.same L.ld s, L.le.same PairAt.st s⟩
theorem LR.pe (L : LR H0 H a b c d e left here late found run) (p : Paired (PairAt H) vs run') : LR H0 (upd H e (.lst vs)) a b c d e left here late found run' := by
  obtain ⟨⟨ab, ac, ad, ae⟩, ⟨bc, bd, be⟩, ⟨cd, ce⟩, de⟩ := nd5 L.nd
  obtain ⟨ys, hx, _⟩ := L.le
  exact ⟨Rs.Same.mut L.same (L.fr _ (by simp)), L.fr, L.nd, L.la.off hx ae, L.lb.off hx be, L.lc.off hx ce, Runs.put L.ld hx (by simp) de, Lst.on hx p⟩
end
end Rs

namespace Rs
open PySem PySem.Spec PyProof.Rows L2
theorem KindsAt.st : Stable KindsAt := fun _ _ _ _ t h => IsTp.mono t h
theorem KindsAt.same {H H' : Hp} {v : V} {ks : List Str} (h : KindsAt H v ks) (s : Same H H') : KindsAt H' v ks := KindsAt.st _ _ _ _ (TupLe.same s) h
end Rs

namespace Rs
open PySem PySem.Spec PyProof.Rows L2
structure EX (K : PySem.W.Frag) (H0 H : Hp) (p lo pr lc a d e : Addr) (o : Ord) (size : Int) (cs : List Cell) (k : Int) (last : Option Pr) (left : List Pr) (found : List (List Pr)) (run : List Pr) : Prop where
  same : Same H0 H
  fr : ∀ x ∈ [p, lc, a, d, e], H0 x = none
  nd : [lc, a, d, e].Nodup
  mm : MakerS K H p lo pr lc o size cs k last
  la : Lst PairAt H a left
  ld : Lst (RunAt H0 [lc, a, d, e]) H d found
  le : Lst PairAt H e run
section
variable {K : PySem.W.Frag} {H0 H H' : Hp} {p lo pr lc a d e : Addr} {o : Ord} {size : Int} {cs cs' : List Cell} {k k' : Int} {last last' : Option Pr} {left left' : List Pr} {found : List (List Pr)} {run run' : List Pr} {vs : List V}
theorem nd4 (h : [lc, a, d, e].Nodup) : ((lc ≠ a ∧ lc ≠ d ∧ lc ≠ e) ∧ (a ≠ d ∧ a ≠ e) ∧ d ≠ e) := by simpa using h
theorem MakerS.nl (M : MakerS K H p lo pr lc o size cs k last) {x : Addr} {ys : List V} (h : H x = some (.lst ys)) : x ≠ p ∧ x ≠ pr := by
  obtain ⟨vl, ⟨dx, e⟩, _⟩ := M.ob
  obtain ⟨dr, e2⟩ := M.room.ob
  exact ⟨ne_of h e (by intro z; cases z), ne_of h e2 (by intro z; cases z)⟩
theorem EX.on (L : EX K H0 H p lo pr lc a d e o size cs k last left found run) (s : Same H H') : EX K H0 H' p lo pr lc a d e o size cs k last left found run := ⟨L.same.trans s, L.fr, L.nd, L.mm.same s, L.la.same PairAt.st s, Runs.same L.ld s, L.le.same PairAt.st s⟩
theorem MakerS.put (M : MakerS K H p lo pr lc o size cs k last) (s0 : Same H0 H) {x : Addr} {ys vs : List V} (h : H x = some (.lst ys)) (n1 : x ≠ lc) (n2 : x ≠ lo) : MakerS K (upd H x (.lst vs)) p lo pr lc o size cs k last := by
  have t : TupLe H (upd H x (.lst vs)) := (TupLe.refl H).list h
  obtain ⟨vl, ob, hv⟩ := M.ob
  obtain ⟨xp, xr⟩ := M.nl h
  exact ⟨⟨vl, ob.keep fun u e => up e xp.symm, OptAt.st _ _ _ _ t hv⟩, ⟨M.room.ob.keep fun u e => up e xr.symm, M.room.ord.keep TurnAt.st t fun u e => up e n2.symm, M.room.cells.keep CellAt.st t fun u e => up e n1.symm, M.room.ne⟩, M.ne⟩
theorem EX.pe (L : EX K H0 H p lo pr lc a d e o size cs k last left found run) (n : e ≠ lo) (q : Paired (PairAt H) vs run') : EX K H0 (upd H e (.lst vs)) p lo pr lc a d e o size cs k last left found run' := by
  obtain ⟨⟨q1, q2, q3⟩, ⟨q4, q5⟩, q6⟩ := nd4 L.nd
  obtain ⟨ys, hx, _⟩ := L.le
  exact ⟨Rs.Same.mut L.same (L.fr _ (by simp)), L.fr, L.nd, L.mm.put L.same hx q3.symm n, L.la.off hx q5, Runs.put L.ld hx (by simp) q6, Lst.on hx q⟩
end
end Rs

namespace Rs
open PySem PySem.Spec PyProof.Rows L2
abbrev N_law_alike : List Str := ["_law_found", "_law_due", "_law_k"]
abbrev P_law_alike : List Str := ["_law_found", "_law_due"]
def okA : Nat → PyData → Prop
  | 0, _ => False
  | _ + 1, .none => True
  | _ + 1, .bool _ => True
  | _ + 1, .int _ => True
  | _ + 1, .str _ => True
  | n + 1, .list ds => ds.length ≤ 100000 ∧ ∀ d ∈ ds, okA n d
  | n + 1, .tuple ds => ds.length ≤ 100000 ∧ ∀ d ∈ ds, okA n d
  | _ + 1, _ => False
theorem okD.a : ∀ {n : Nat} {d : PyData}, okD n d → okA n d
  | 0, _, h => h.elim
  | n + 1, .none, _ => trivial
  | n + 1, .bool _, _ => trivial
  | n + 1, .int _, _ => trivial
  | n + 1, .str _, _ => trivial
  | n + 1, .list ds, h => ⟨h.1, fun d hd => okD.a (h.2 d hd)⟩
  | n + 1, .tuple ds, h => ⟨h.1, fun d hd => okD.a (h.2 d hd)⟩
theorem okA.up : ∀ {n : Nat} {d : PyData}, okA n d → okA (n + 1) d
  | 0, _, h => h.elim
  | n + 1, .none, _ => trivial
  | n + 1, .bool _, _ => trivial
  | n + 1, .int _, _ => trivial
  | n + 1, .str _, _ => trivial
  | n + 1, .list ds, h => ⟨h.1, fun d hd => okA.up (h.2 d hd)⟩
  | n + 1, .tuple ds, h => ⟨h.1, fun d hd => okA.up (h.2 d hd)⟩
theorem okA.ups {n : Nat} {d : PyData} (h : okA n d) : ∀ k, okA (n + k) d
  | 0 => h
  | k + 1 => okA.up (okA.ups h k)
theorem okA.to {n m : Nat} {d : PyData} (h : okA n d) (l : n ≤ m) : okA m d := by
  have := h.ups (m - n)
  rwa [show n + (m - n) = m by omega] at this
def spr_law_alike (K : PySem.W.Frag) (n : Nat) : Sp := fun vs H Q E => match vs with
  | [x, y] => ∃ d, okA n d ∧ Dp K H x d ∧ Dp K H y d ∧ Q (.bl true) H
  | _ => False
abbrev sp_law_alike (K : PySem.W.Frag) : Sp := spr_law_alike K 45
theorem len_law_alike (K : PySem.W.Frag) : ∀ d vs H Q E, spr_law_alike K d vs H Q E → vs.length = 2 := fun d vs H Q E h => by
  unfold spr_law_alike at h
  match vs, h with
  | [_, _], _ => rfl
theorem no_law_alike (K : PySem.W.Frag) : ∀ vs H Q E, ¬ spr_law_alike K 0 vs H Q E := fun vs H Q E h => by
  unfold spr_law_alike at h
  match vs, h with
  | [_, _], ⟨d, h, _⟩ => exact h
def t_law_alike (K : PySem.W.Frag) (sp : Sp) (E : XK) : TS := (tSeq (tIfS (tTest (tOpC rIsN (tVar 1) .non)) (tRet (tOpC rIsN (tVar 0) .non)) tNext)
  (tSeq (tIfS (tB (tIsi K "bool" (tVar 1))) (tRet (tAndV (tIsi K "bool" (tVar 0)) (tOp rEq (tVar 0) (tVar 1)))) tNext)
   (tSeq (tIfS (tB (tIsi K "int" (tVar 1))) (tRet (tAndV (tIsi K "int" (tVar 0)) (tAndV (tNotV (tIsi K "bool" (tVar 0))) (tOp rEq (tVar 0) (tVar 1))))) tNext)
    (tSeq (tIfS (tB (tIsi K "str" (tVar 1))) (tRet (tAndV (tIsi K "str" (tVar 0)) (tOp rEq (tVar 0) (tVar 1)))) tNext)
     (tSeq (tIfS (tOr (tTest (tOp rNe (tIsi K "tuple" (tVar 1)) (tIsi K "tuple" (tVar 0)))) (tTest (tOp rNe (tIsi K "list" (tVar 1)) (tIsi K "list" (tVar 0))))) (tRet (tC (.bl false))) tNext)
      (tSeq (tIfS (tTest (tOp rNe (tCB1 (xLen K) (tVar 0)) (tCB1 (xLen K) (tVar 1)))) (tRet (tC (.bl false))) tNext)
       (tSeq (tFor (iRng1 (tCons (tCB1 (xLen K) (tVar 1)) tNil)) (gName 2) 
          (tIfS (tNot (tB (tCall sp [] E (tCons (tOp (rIx K) (tVar 0) (tVar 2)) (tCons (tOp (rIx K) (tVar 1) (tVar 2)) tNil))))) (tRet (tC (.bl false))) tNext))
        (tRet (tC (.bl true))))))))))
theorem tyL {K : PySem.W.Frag} {H : Hp} {a : Addr} {xs : List V} (h : SqL K H a xs) : TyX K H (.ref a) (.type "list") := by
  rcases h with (h | ⟨o, h⟩) | ⟨o, its, n, h, c, _⟩
  · exact .base (.lst h)
  · exact .base (.frz h)
  · exact .kList h c
theorem tyT {K : PySem.W.Frag} {H : Hp} {a : Addr} {xs : List V} (h : SqT K H a xs) : TyX K H (.ref a) (.type "tuple") := by
  rcases h with (h | ⟨o, h⟩) | ⟨o, its, n, h, c, _⟩
  · exact .base (.tup h)
  · exact .fTuple h
  · exact .kTuple h c
theorem dpAll_len {K : PySem.W.Frag} {H : Hp} : ∀ {vs : List V} {ds : List PyData}, DpAll K H vs ds → vs.length = ds.length
  | _, _, .nil => rfl
  | _, _, .cons _ t => by rw [List.length_cons, List.length_cons, dpAll_len t]
theorem dpAll_get {K : PySem.W.Frag} {H : Hp} : ∀ {vs : List V} {ds : List PyData}, DpAll K H vs ds → ∀ {i : Nat} {d : PyData}, ds[i]? = some d → ∃ v, vs[i]? = some v ∧ Dp K H v d
  | _, _, .nil, _, _, e => by simp at e
  | _, _, .cons h t, 0, d, e => by simp at e; subst e; exact ⟨_, rfl, h⟩
  | _, _, .cons h t, i + 1, d, e => by simpa using dpAll_get t (i := i) (by simpa using e)
theorem pure_law_alike {K : PySem.W.Frag} (d : Nat) : ∀ vs H Q E, spr_law_alike K (d + 1) vs H Q E → t_law_alike K (spr_law_alike K d) E { nx := fun _ H' => Q .non H', rt := Q } (start N_law_alike vs) H := by
  intro vs H Q E h
  unfold spr_law_alike at h
  match vs, h with
  | [x, y], ⟨z, ok, hx, hy, k⟩ =>
    -- two rows of items
    have tail : ∀ (a b : Addr) (xs ys : List V) (ds : List PyData), (SqL K H a xs ∨ SqT K H a xs) → (SqL K H b ys ∨ SqT K H b ys) → DpAll K H xs ds → DpAll K H ys ds → ds.length ≤ 100000 → (∀ e ∈ ds, okA d e) →
        ((tSeq (tIfS (tTest (tOp rNe (tCB1 (xLen K) (tVar 0)) (tCB1 (xLen K) (tVar 1)))) (tRet (tC (.bl false))) tNext)
          (tSeq (tFor (iRng1 (tCons (tCB1 (xLen K) (tVar 1)) tNil)) (gName 2) (tIfS (tNot (tB (tCall (spr_law_alike K d) [] E (tCons (tOp (rIx K) (tVar 0) (tVar 2)) (tCons (tOp (rIx K) (tVar 1) (tVar 2)) tNil))))) (tRet (tC (.bl false))) tNext))
            (tRet (tC (.bl true))))) : TS) { nx := fun _ H' => Q .non H', rt := Q } [some (.ref a), some (.ref b), none] H := by
      intro a b xs ys ds ha hb dx dy hl hok
      have lx := dpAll_len dx
      have ly := dpAll_len dy
      refine ⟨_, rfl, a, xs, rfl, ha, _, rfl, b, ys, rfl, hb, rfl, _, rfl, ?_⟩
      have e : (!decide (V.int (xs.length : Int) = V.int (ys.length : Int))) = false := by rw [lx, ly]; simp
      rw [e]
      refine ⟨_, rfl, b, ys, rfl, hb, _, rfl, by omega, by omega, ?_⟩
      refine for_range (lo := 0) (n := (ys.length : Int).toNat) (fun i σ H' => H' = H ∧ ∃ x2, σ = [some (.ref a), some (.ref b), x2]) ⟨rfl, none, rfl⟩ ?_ ?_
      · rintro i σ H' hi ⟨rfl, x2, rfl⟩
        have hid : i < ds.length := by omega
        have hd := List.getElem?_eq_getElem hid
        obtain ⟨vx, gx, px⟩ := dpAll_get dx hd
        obtain ⟨vy, gy, py⟩ := dpAll_get dy hd
        have ix : ∀ {a : Addr} {xs : List V} {v : V} {Q : VK}, (SqL K H' a xs ∨ SqT K H' a xs) → xs[i]? = some v → Q v H' → rIx K (.ref a) (.int (0 + (i : Int))) H' Q := fun h g q => by
          rcases h with h | h
          · exact .inl ⟨_, _, _, _, rfl, rfl, h, at_of (j := i) (by omega) g, q⟩
          · exact .inr (.inl ⟨_, _, _, _, rfl, rfl, h, at_of (j := i) (by omega) g, q⟩)
        refine ⟨_, rfl, _, rfl, ix ha gx ⟨_, rfl, _, rfl, ix hb gy ?_⟩⟩
        exact ⟨ds[i], hok _ (List.getElem_mem hid), px, py, _, rfl, rfl, _, rfl⟩
      · rintro σ H' ⟨rfl, x2, rfl⟩
        exact k
    cases hx with
    | non =>
      cases hy
      exact ⟨_, rfl, rfl, _, rfl, _, rfl, rfl, k⟩
    | bl b =>
      cases hy
      refine ⟨_, rfl, rfl, _, rfl, _, rfl, isi_go (t := "bool") (b := true) (.base (.bl b)) (by decide +kernel) ⟨_, rfl, _, rfl, isi_go (t := "bool") (b := true) (.base (.bl b)) (by decide +kernel) ⟨_, rfl, _, rfl, _, rfl, rfl, ?_⟩⟩⟩
      rw [decide_eq_true rfl]
      exact k
    | int b =>
      cases hy
      refine ⟨_, rfl, rfl, _, rfl, _, rfl, isi_go (t := "int") (b := false) (.base (.int b)) (by decide +kernel) ⟨_, rfl, _, rfl, isi_go (t := "int") (b := true) (.base (.int b)) (by decide +kernel) ⟨_, rfl, _, rfl, isi_go (t := "int") (b := true) (.base (.int b)) (by decide +kernel) ⟨_, rfl, _, rfl, isi_go (t := "int") (b := false) (.base (.int b)) (by decide +kernel) ⟨_, rfl, _, rfl, _, rfl, _, rfl, rfl, ?_⟩⟩⟩⟩⟩
      rw [decide_eq_true rfl]
      exact k
    | str b =>
      cases hy
      refine ⟨_, rfl, rfl, _, rfl, _, rfl, isi_go (t := "str") (b := false) (.base (.str b)) (by decide +kernel) ⟨_, rfl, _, rfl, isi_go (t := "str") (b := false) (.base (.str b)) (by decide +kernel) ⟨_, rfl, _, rfl, isi_go (t := "str") (b := true) (.base (.str b)) (by decide +kernel) ⟨_, rfl, _, rfl, isi_go (t := "str") (b := true) (.base (.str b)) (by decide +kernel) ⟨_, rfl, _, rfl, _, rfl, rfl, ?_⟩⟩⟩⟩⟩
      rw [decide_eq_true rfl]
      exact k
    | @lst a xs ds sx dx =>
      cases hy with
      | @lst b ys _ sy dy =>
        obtain ⟨hl, hok⟩ : ds.length ≤ 100000 ∧ ∀ e ∈ ds, okA d e := ok
        refine ⟨_, rfl, rfl, _, rfl, _, rfl, isi_go (t := "list") (b := false) (tyL sy) (by decide +kernel) ⟨_, rfl, _, rfl, isi_go (t := "list") (b := false) (tyL sy) (by decide +kernel) ⟨_, rfl, _, rfl, isi_go (t := "list") (b := false) (tyL sy) (by decide +kernel) ⟨_, rfl, ?_⟩⟩⟩⟩
        refine ⟨_, rfl, isi_go (t := "list") (b := false) (tyL sy) (by decide +kernel) ⟨_, rfl, isi_go (t := "list") (b := false) (tyL sx) (by decide +kernel) ⟨rfl, _, rfl, _, rfl, isi_go (t := "list") (b := true) (tyL sy) (by decide +kernel) ⟨_, rfl, isi_go (t := "list") (b := true) (tyL sx) (by decide +kernel) ⟨rfl, _, rfl, ?_⟩⟩⟩⟩⟩
        exact tail a b xs ys ds (.inl sx) (.inl sy) dx dy hl hok
    | @tup a xs ds sx dx =>
      cases hy with
      | @tup b ys _ sy dy =>
        obtain ⟨hl, hok⟩ : ds.length ≤ 100000 ∧ ∀ e ∈ ds, okA d e := ok
        refine ⟨_, rfl, rfl, _, rfl, _, rfl, isi_go (t := "tuple") (b := false) (tyT sy) (by decide +kernel) ⟨_, rfl, _, rfl, isi_go (t := "tuple") (b := false) (tyT sy) (by decide +kernel) ⟨_, rfl, _, rfl, isi_go (t := "tuple") (b := false) (tyT sy) (by decide +kernel) ⟨_, rfl, ?_⟩⟩⟩⟩
        refine ⟨_, rfl, isi_go (t := "tuple") (b := true) (tyT sy) (by decide +kernel) ⟨_, rfl, isi_go (t := "tuple") (b := true) (tyT sx) (by decide +kernel) ⟨rfl, _, rfl, _, rfl, isi_go (t := "tuple") (b := false) (tyT sy) (by decide +kernel) ⟨_, rfl, isi_go (t := "tuple") (b := false) (tyT sx) (by decide +kernel) ⟨rfl, _, rfl, ?_⟩⟩⟩⟩⟩
        exact tail a b xs ys ds (.inr sx) (.inr sy) dx dy hl hok
end Rs

namespace Rs
open PySem PySem.Spec PyProof.Rows L2
theorem Lst.but {α : Type} {R : Rel α} (st : Stable R) {H H' : Hp} {a l x : Addr} {xs : List α} (B : Box H a l) (k : But [a, l] H H') (L : Lst R H x xs) (n : x ∉ [a, l]) : Lst R H' x xs := L.keep st (B.tup k) fun o e => k _ _ e n
theorem Box.fresh {H : Hp} {a l x : Addr} (B : Box H a l) (h : H x = none) : x ∉ [a, l] := by
  obtain ⟨ns, z, e1, e2, _⟩ := B.ex
  exact nn (ne_of_none e1 h).symm (ne_of_none e2 h).symm
theorem GoodOrd.len {ks : List Str} {o : Ord} (g : GoodOrd ks o) (h : ks.length ≤ 4) : o.length ≤ 4 := by
  have nd := g.nd
  have sub : (o.map (·.1)) ⊆ List.range ks.length := fun x hx => by
    obtain ⟨t, ht, rfl⟩ := List.mem_map.mp hx
    exact List.mem_range.mpr (g.col t ht)
  have := nd.length_le_of_subset sub
  rw [List.length_map, List.length_range] at this
  omega
end Rs

namespace Rs
open PySem PySem.Spec PyProof.Rows L2
section
variable {X : Cx} {W : WX} {E : XK} {k : Nat} {ps : List Str} {sp : Sp} {x m : Str} {e : Expr} {es : List Expr} {t : TA} {p p2 pos pos2 : Pos} {j : Nat}
theorem ps_raiseE (c : PySem.W.excIn X.K (He.ga X.K x) He.veBase "ValueError.__new__" = true ∧ PySem.W.keepIn X.K (.ref (He.ga X.K x)) = true ∧ PySem.W.subIn X.K (.ref (He.ga X.K x)) (.type "BaseException") = some true ∧ PySem.W.typeIn X.K (.ref (He.ga X.K x)) = some (.type "type"))
    (gC : X.mg x = some (.ref (He.ga X.K x))) (hg : Gl X x) (hc : X.calm = true) (tk : Takes X (fun cls d _ H => E cls d H)) (hdb : (x == ("__debug__" : Str)) = false := by decide) :
    PS X (.Raise (some (.Call (.Name x p) [.Constant (.str m) j p2] [] pos)) none pos2) (tRaise E (.ref (He.ga X.K x))) :=
  ps_raise hc tk (pmk_own PySem.F.excBase_ValueError c.1 gC c.2.1 (raises_own c.2.2.1 c.2.2.2) hg hdb)
end
section
variable {X : Cx} {E : XK} {x : Str} {body suite : List Stmt} {b₀ : Stmt} {np pos pos' : Pos} {tb : WX → TS} {ts : TS}
end
end Rs

namespace Rs
open PySem PySem.Spec PyProof.Rows L2 LamX
section
variable {P : Program} {w : World} {K : PySem.W.Frag} {mg : Str → Option Value} {base : Heap}
abbrev cxP (P : Program) (w : World) (K : PySem.W.Frag) (mg : Str → Option Value) (base : Heap) (N : List Str) (ql : Str) (sc : Scope) (g : Addr) (cd : Value) (A : Around) (outer : List Env) (z : Shared) (H : Hp) (a : Addr) (oe : Obj) : Cx :=
  L2H.cxH CX0 P w K mg base N ql sc g cd A outer z H E0 (a, oe)
theorem warm_call {k : Nat} {g : Addr} {nm ql : Str} {pr : Arguments} {bd : List Stmt} {sc : Scope} {dV kV doc pm cdv ct oc : Value} {an od : Option Addr} {osl : Array (Option Value)} {N : List Str} {y : Str} {A : Around} {outer : List Env} {z : Shared} {H : Hp} {Q : VK} {a : Addr} {oe : Obj} {t : TS}
    (lk : K.lookup g = some ⟨oc, od, .func (PySem.W.fnOf nm ql pr bd sc dV kV doc pm an cdv ct), osl⟩) (hcd : PySem.W.codeIn K cdv ql = true) (S : FnScope N [y] sc) (hr : L2H.RoomH (k + 1) A) (e0 : Env0 P w K mg base A outer z H) (hpin : L2H.PinOk outer H z (a, oe))
    (hb : BindsTo z (PySem.W.fnOf nm ql pr bd sc dV kV doc pm an cdv ct) ⟨[.ref a], []⟩ [(y, .ref a)]) (hbody : PSs (cxP P w K mg base N ql sc g cdv A outer z H a oe) bd t) (hq : t { nx := fun _ H' => Q .non H', rt := Q } (L2.start N [.ref a]) H) :
    codeAny (model P w) A (.call (.ref g) ⟨[.ref a], []⟩) (CR CX0 outer P w H z Q E0) z := by
  have KZ : K.In z.heap := e0.mod.kin.keeps fun b o e => (e0.bs b o e).1
  have lm : z.heap.NoLimit := e0.mod.nolimit.keeps fun b o e => (e0.bs b o e).1
  have hk : ∀ n ∈ [(y, Value.ref a)], sc.names.lookup n.1 = some .local ∨ (sc.names.lookup n.1 = some .cell ∧ ((cellsFrom (z.heap.objs.size + 1) sc.names []).lookup n.1).isSome = true) := fun n hn => by
    have en : n = (y, Value.ref a) := by simpa using hn
    rw [en]
    rcases S.par y (by simp) with q | q
    · exact .inl q
    · exact .inr ⟨q, PySem.W.cellsFrom_some _ _ _ (.inl q)⟩
  refine codeAny_call_function hr.depth (KZ _ _ lk) rfl S.co S.gen rfl (PySem.W.codeRec_of KZ hcd) (hb _ _ _ _ (wpAny_newFunctionEnv_cells S.kind hk fun env he z1 x => ?_))
  subst he
  refine ⟨lm.keeps x.toInCall.keep, codeAny_func (wpAny_mono (hbody.run [] z1 (L2.start N [.ref a]) H _ (L2H.inv_startH (us := [.ref a]) (vs := [.ref a]) S hpin e0 rfl (.cons rfl .nil) x) hq) (fun fl z' hs => ?_) fun e z' hs => hs)⟩
  cases fl with
  | ret u =>
    obtain ⟨v, σ', H', J, rv, q⟩ := hs
    exact ⟨v, H', J.os, J.bare, J.base, J.hok, rv, q⟩
  | next =>
    obtain ⟨σ', H', J, q⟩ := hs
    exact ⟨.non, H', J.os, J.bare, J.base, J.hok, rfl, q⟩
  | brk => exact hs.elim fun _ h => h.elim fun _ h => h.2.elim
  | cont => exact hs.elim fun _ h => h.elim fun _ h => h.2.elim
end
section
variable {prog : Program} {w : World} {A : Around} {E : Value → Shared → Prop} {z : Shared} {K : PySem.W.Frag} {p D : Addr} {op : Obj} {od : Option Obj}
open PySem.W PySem.Calls in
theorem found_class (C : ExcC K D) : findObj K D od "__class__" = some (.bind (.builtin "getset_descriptor.__get__") (.builtin "object.__class__")) := by
  obtain ⟨cd, hc, _⟩ := any_some C.hd
  have e1 := C.ha
  have e2 := C.hn
  have e3 := C.ht
  unfold findObj
  rw [hc, Option.bind_some, e1, Option.bind_some]
  simp [e2, e3]
open PySem.W PySem.Calls in
theorem ask_class {Q : Option Value → Shared → Prop} (C : ExcC K D) (KI : K.In z.heap) (J : InstAt z.heap p op D od) (q : Q (some (.ref D)) { z with toks := z.toks + 1 }) : wpAny (model prog w) A (getAttr? (.ref p) "__class__") Q E z := by
  have fo := found_class (od := od) C
  obtain ⟨hp, gs, dr, tk, ou⟩ := z
  have a0 := J.type (M := model prog w)
  have a1 := looks_findIn (M := model prog w) KI C.hg
  have a2 := looks_findIn (M := model prog w) KI C.hk
  have a3 := looks_find (M := model prog w) KI J fo
  have up : Looks (model prog w) hp (isInstance (.ref p) (.type "BaseException")) true := a0.andThen (looks_subIn KI C.hs)
  have no : (Value.builtin "BaseException.__getattribute__" == Value.builtin "object.__getattribute__") = false := by decide +kernel
  have no2 : (onTheHeap (Value.ref D) && Value.builtin "BaseException.__getattribute__" == Value.builtin "object.__getattribute__") = false := by rw [no]; rfl
  unfold getAttr?
  unfold getAttrBy? getAttrBy
  refine wpAny_bind (wpAny_mkText (wpAny_bind (wpAny_attempt (wpAny_holding (wpAny_bind (a0.at (wpAny_bind (a1.at ?_))))))))
  show wpAny _ _ (if (onTheHeap (Value.ref D) && Value.builtin "BaseException.__getattribute__" == Value.builtin "object.__getattribute__") = true then _ else _) _ _ _
  rw [no2, if_neg Bool.false_ne_true]
  unfold getAttrByItsOwn
  unfold hookBefore
  refine wpAny_bind ?_
  rw [if_pos (show onTheHeap (.ref D) = true from rfl)]
  refine a2.at (wpAny_bind (wpAny_attempt (wpAny_holding ?_)))
  unfold callGetattribute
  rw [show (false && onTheHeap (Value.builtin "BaseException.__getattribute__")) = false from rfl, if_neg Bool.false_ne_true]
  unfold boundAndCalled
  rw [PySem.F.excAttr_ValueError.ga.bind (.ref p)]
  refine wpAny_bind (wpAny_pure (wpAny_call (codeAny_call_builtin PySem.F.excAttr_ValueError.ga.plain PySem.F.entry_bexc_ga ?_)))
  refine @check_slot (model prog w) _ _ ⟨hp, gs, dr, tk + 1, ou⟩ "BaseException.__getattribute__" "BaseException" "__getattribute__" (.ref p) [.str "__class__" tk] [] _ (by decide +kernel) (by decide +kernel) up (PySem.F.args_bexc_ga (.ref p) (.str "__class__" tk)) ?_
  delta Builtin.«object.__getattribute__»
  refine wpAny_bind (wpAny_of_eq (a := ((Value.ref p : Value), [Value.str "__class__" tk])) (by first | rfl | (simp only [slotArgs]; rfl)) ?_)
  refine wpAny_bind (wpAny_pure (wpAny_bind (a0.at (wpAny_bind (a3.at ?_)))))
  refine wpAny_bind (wpAny_holding (wpAny_call (class_get (s := ⟨hp, gs, dr, tk + 1, ou⟩) (ox := op) (od := od) KI J C.hm ?_)))
  refine wpAny_pure ?_
  refine (show wpAny _ _ (handedOut (Value.ref D)) _ _ _ from ?_)
  rw [handedOut_of (v := Value.ref D) rfl]
  first
    | exact wpAny_pure (wpAny_pure q)
    | exact wpAny_pure q
    | exact wpAny_pure (wpAny_bind (wpAny_pure (wpAny_pure q)))
open PySem.W PySem.Calls in
theorem kit_err (C : ExcC K D) : KitX K (.ref p) (.ref D) (fun h => InstAt h p op D od) := by
  have base := handS_kitx_exc (x := p) (ox := op) C.hg C.hk C.hs C.hd C.ha C.hn C.ht C.hm
  exact ⟨fun _ _ _ J => J.type, fun M h KI J => (by
    obtain ⟨cd, hc, _⟩ := any_some C.hd
    unfold clsIn at hc
    split at hc
    · rename_i ho
      intro A' Q' E' z' k q
      unfold isType loadHead
      exact wpAny_bind (wpAny_loadPart (k _ _ (KI _ _ ho)) (wpAny_pure q))
    · cases hc), base.ne, fun KI J q => ask_class C KI J q⟩
end
def DictOk (d : Option Addr) (H : Hp) : Prop := ∀ dd, d = some dd → ∃ fs, H dd = some (.xd fs)
def rIsX (K : PySem.W.Frag) (D a : Addr) (d : Option Addr) : List V → Hp → VK → Prop := fun xs H Q => ∃ (c : V) (cv : Value) (b : Bool), xs = [.ref a, c] ∧ (∀ u, RelV c u → u = cv) ∧ PySem.W.kitOne K (.ref D) cv = some b ∧ DictOk d H ∧ Q (.bl b) H
section
variable {X : Cx} {a D : Addr} {oe : Obj} {pn : List (Addr × Obj)}
theorem pe_gref {x : Str} {p : Pos} (hg : Gl X x) (hm : X.mg x = some (.ref (He.ga X.K x))) (hd : (x == ("__debug__" : Str)) = false := by decide) : PE X (.Name x p) (tC (.ref (He.ga X.K x))) :=
  ⟨fun _ _ _ H _ I h => ld_glob I hg hm ⟨.ref _, H, I, rfl, h⟩ hd⟩
theorem call_isP {d : Option Addr} (C : ExcC X.K D) (hz : Zc (.ref D) d oe) (hf : ∃ vs, oe.data = .fields vs) (hp : (a, oe) ∈ X.pn) : CallR X (.builtin "isinstance") (rIsX X.K D a d) := by
  intro pins z σ H xs us Q I r h
  obtain ⟨c, cv, b, rfl, hcv, e, hd, q⟩ := h
  obtain ⟨u1, ur, rfl, rx, rr⟩ : ∃ u1 ur, us = u1 :: ur ∧ RelV (.ref a) u1 ∧ Vals [c] ur := by
    cases r with
    | cons rx rr => exact ⟨_, _, rfl, rx, rr⟩
  obtain ⟨u2, rfl, rt⟩ : ∃ u2, ur = [u2] ∧ RelV c u2 := by
    cases rr with
    | cons rt r0 =>
      cases r0
      exact ⟨_, rfl, rt⟩
  obtain rfl : u1 = Value.ref a := rx
  obtain rfl := hcv _ rt
  have hget := (I.pin (a, oe) (List.mem_append_left _ hp)).1
  obtain ⟨vs, hv⟩ := hf
  have nc : PySem.W.notCls oe := by unfold PySem.W.notCls; rw [hv] <;> rfl
  obtain ⟨od, J⟩ : ∃ od, PySem.W.InstAt z.heap a oe D od := by
    cases ed : d with
    | none => exact ⟨none, hget, hz.1, nc, by rw [hz.2, ed]; trivial⟩
    | some dd =>
      obtain ⟨fs, hH⟩ := hd dd ed
      have hx : ObjOk X.prog X.w H z.heap dd (.xd fs) := I.hok dd _ hH
      obtain ⟨mA, hns, _⟩ := hx
      obtain ⟨od, ho, _⟩ := lookIn_ns hns
      exact ⟨some od, hget, hz.1, nc, by rw [hz.2, ed]; exact ho⟩
  exact PySem.W.kia_one (kit_err C) I.kIn J e (fun y => nomatch y) fun tk => ⟨.bl b, H, I.kept (t' := tk) fun _ _ y => y, rfl, q⟩
theorem pe_warm {k : Nat} {g : Addr} {x y : Str} {pr : Arguments} {bd : List Stmt} {sc : Scope} {dV kV doc pm cdv ct oc : Value} {an od : Option Addr} {osl : Array (Option Value)} {N : List Str} {e : Expr} {te : TE} {t : TS} {p pos : Pos}
    (lk : X.K.lookup g = some ⟨oc, od, .func (PySem.W.fnOf x x pr bd sc dV kV doc pm an cdv ct), osl⟩) (hcd : PySem.W.codeIn X.K cdv x = true) (S : FnScope N [y] sc) (hr : L2H.RoomH (k + 1) X.A) (hp : (a, oe) ∈ X.pn)
    (hb : L2.Binds X.K (PySem.W.fnOf x x pr bd sc dV kV doc pm an cdv ct) [y] []) (hg : Gl X x) (hm : X.mg x = some (.ref g)) (hk : PySem.W.keepIn X.K (.ref g) = true)
    (hbody : ∀ (z : Shared) (H : Hp), PSs (cxP X.prog X.w X.K X.mg X.base N x sc g cdv X.A X.stack z H a oe) bd t) (he : PE X e te) (hdb : (x == ("__debug__" : Str)) = false := by decide)
    (hst : starEach [e] X.env = [(false, eval e X.env)] := by rfl) (hpl : (backTo pos (starEach [] X.env)).any (·.1) = false := by rfl) :
    PE X (.Call (.Name x p) [e] [] pos) (fun σ H Q => te σ H fun v H1 => v = .ref a ∧ t { nx := fun _ H' => Q .non H', rt := Q } (L2.start N [.ref a]) H1) := by
  refine ⟨fun pins z σ H Q I h => wpAny_Call_Name_kw (ld_glob I hg hm ?_ hdb)⟩
  let R : List V → Hp → Prop := fun vs H1 => match vs with
    | [v] => v = .ref a ∧ t { nx := fun _ H' => Q .non H', rt := Q } (L2.start N [.ref a]) H1
    | _ => False
  have ha : PA X [e] (tCons te tNil) := pa_cons he pa_nil hst
  refine PySem.W.callWith_K (h₀ := X.base) I.ok.mod.kin hk (thn (ha.run pos pins z σ H R I h) fun us z1 hh => ?_) hst hpl
  obtain ⟨vs, H1, I1, r1, q1⟩ := hh
  cases r1 with
  | nil => exact q1.elim
  | cons rv rr =>
    cases rr with
    | cons _ _ => exact q1.elim
    | nil =>
      obtain ⟨ev, ht⟩ := q1
      subst ev
      obtain rfl := rv
      have pin := I1.pin (a, oe) (List.mem_append_left _ hp)
      have hpin : L2H.PinOk X.stack H1 z1 (a, oe) := ⟨pin.1, pin.2.1, fun hm' => (List.mem_cons.mp (I1.stkSub a hm')).elim pin.2.2.1 pin.2.2.2.1, pin.2.2.2.2⟩
      refine ⟨I1.kIn, wpAny_call (codeAny_mono (warm_call lk hcd S hr I1.env0 hpin (hb z1 [.ref a] I1.kIn rfl) (hbody z1 H1) ht) fun r z2 hq => ?_)⟩
      cases r with
      | error err => exact False.elim hq
      | ok fl =>
        cases fl with
        | ret u => exact I1.after hq
        | next => exact False.elim hq
        | brk => exact False.elim hq
        | cont => exact False.elim hq
end
structure ErrIs (K : PySem.W.Frag) (x : Str) : Prop where
  mem : x ∈ errNames
  c : ExcC K (He.ga K x)
  k : ∀ y ∈ errNames, PySem.W.kitOne K (.ref (He.ga K x)) (.ref (He.ga K y)) = some (decide (x = y))
  v : PySem.W.kitOne K (.ref (He.ga K x)) (.type "ValueError") = some true
  s : PySem.W.exmOne K (.ref (He.ga K x)) (.ref (He.ga K "SortError")) = some true
theorem excCB_ok {K : PySem.W.Frag} {D : Addr} (h : excCB K D = true) : ExcC K D := by
  unfold excCB at h
  simp only [Bool.and_eq_true, decide_eq_true_eq] at h
  obtain ⟨h1, h2, h3, h4, h5, h6, h7, h8⟩ := h
  exact ⟨h1, h2, h3, h4, h5, h6, h7, h8⟩
theorem errB_ok {K : PySem.W.Frag} {x : Str} (h : errB x K = true) : ErrIs K x := by
  unfold errB at h
  simp only [Bool.and_eq_true, decide_eq_true_eq, List.all_eq_true] at h
  obtain ⟨h1, h2, h3, h4, h5⟩ := h
  exact ⟨h1, excCB_ok h2, h3, h4, h5⟩
def ErrNo (K : PySem.W.Frag) (x : Str) (d : Option Addr) (H : Hp) (v : V) : Prop :=
  if x = "BadRuns" ∨ x = "BadRows" ∨ x = "BadText" then ∃ dd fs, XfC K (He.ga K x) ∧ PySem.W.findIn K (.ref (He.ga K x)) (if x = "BadRuns" then ("number" : Str) else "place") = some none ∧ d = some dd ∧ H dd = some (.xd fs) ∧ fs.lookup (if x = "BadRuns" then ("number" : Str) else "place") = some v
  else d = none ∧ v = .int 0
def rErr (K : PySem.W.Frag) (cls : Value) (d : Option Addr) (H : Hp) (Q : VK) : Prop := ∃ x v, cls = .ref (He.ga K x) ∧ ErrIs K x ∧ ErrNo K x d H v ∧
  ∀ p H', H p = none → (∀ b o, H b = some o → H' b = some o) → H' p = some (.tup [.str x, v]) → Q (.ref p) H'
def tWarm (K : PySem.W.Frag) (i : Nat) (a : Addr) (cls : Value) (d : Option Addr) (N : List Str) (t : Addr → Addr → Option Addr → TS) : TE := fun σ H Q => σ[i]? = some (some (.ref a)) ∧ ∃ D, cls = .ref D ∧ ExcC K D ∧ t D a d { nx := fun _ H' => Q .non H', rt := Q } (L2.start N [.ref a]) H
def tErrF (K : PySem.W.Frag) (i : Nat) (a : Addr) (cls : Value) (d : Option Addr) (n : Str) : TE := fun σ H Q => σ[i]? = some (some (.ref a)) ∧ ∃ C dd fs v, cls = .ref C ∧ XfC K C ∧ PySem.W.findIn K (.ref C) n = some none ∧ d = some dd ∧ H dd = some (.xd fs) ∧ fs.lookup n = some v ∧ Q v H
structure WarmFn (P : Program) (w : World) (K : PySem.W.Frag) (mg : Str → Option Value) (base : Heap) (x : Str) (N : List Str) (t : Addr → Addr → Option Addr → TS) : Prop where
  ex : ∃ (y : Str) (g : Addr) (pr : Arguments) (bd : List Stmt) (sc : Scope) (dV kV doc pm cdv ct oc : Value) (an od : Option Addr) (osl : Array (Option Value)),
    K.lookup g = some ⟨oc, od, .func (PySem.W.fnOf x x pr bd sc dV kV doc pm an cdv ct), osl⟩ ∧ PySem.W.codeIn K cdv x = true ∧ FnScope N [y] sc ∧ L2.Binds K (PySem.W.fnOf x x pr bd sc dV kV doc pm an cdv ct) [y] [] ∧ mg x = some (.ref g) ∧ PySem.W.keepIn K (.ref g) = true ∧
    ∀ (D a : Addr) (d : Option Addr) (oe : Obj), ExcC K D → Zc (.ref D) d oe → (∃ vs, oe.data = .fields vs) → ∀ (A : Around) (outer : List Env) (z : Shared) (H : Hp), PSs (cxP P w K mg base N x sc g cdv A outer z H a oe) bd (t D a d)
section
variable {X : Cx} {a : Addr} {cls : Value} {d : Option Addr} {oe : Obj} {pn : List (Addr × Obj)} {i : Nat} {n : Str} {p p2 pos : Pos}
theorem pe_warmV {k : Nat} {x : Str} {N : List Str} {t : Addr → Addr → Option Addr → TS} (F : WarmFn X.prog X.w X.K X.mg X.base x N t) (hr : L2H.RoomH (k + 1) X.A) (hp : (a, oe) ∈ X.pn) (hz : Zc cls d oe) (hf : ∃ vs, oe.data = .fields vs) (hg : Gl X x) (he : PE X (.Name n p2) (tVar i))
    (hdb : (x == ("__debug__" : Str)) = false := by decide) (hst : starEach [.Name n p2] X.env = [(false, eval (.Name n p2) X.env)] := by rfl) (hpl : (backTo pos (starEach [] X.env)).any (·.1) = false := by rfl) :
    PE X (.Call (.Name x p) [.Name n p2] [] pos) (tWarm X.K i a cls d N t) := by
  refine ⟨fun pins z σ H Q I h => ?_⟩
  obtain ⟨h1, D, rfl, C, ht⟩ := h
  obtain ⟨y, g, pr, bd, sc, dV, kV, doc, pm, cdv, ct, oc, an, od, osl, lk, hcd, S, hb, hm, hk, hbody⟩ := F.ex
  exact (pe_warm (t := t D a d) lk hcd S hr hp hb hg hm hk (fun z H => hbody D a d oe C hz hf _ _ z H) he hdb hst hpl).run pins z σ H Q I ⟨_, h1, rfl, ht⟩
theorem pe_errF (hz : Zc cls d oe) (hf : ∃ vs, oe.data = .fields vs) (he : PE (X.suite a ((a, oe) :: pn)) (.Name n p2) (tVar i)) {f : Str} (hb : attributeBase (.Name n p2) f X.env (eval (.Name n p2) X.env) = eval (.Name n p2) X.env := by rfl) :
    PE (X.suite a ((a, oe) :: pn)) (.Attribute (.Name n p2) f pos) (tErrF X.K i a cls d f) := by
  refine ⟨fun pins z σ H Q I h => ?_⟩
  obtain ⟨h1, C, dd, fs, v, rfl, hx, hn, hd, hH, hl, q⟩ := h
  exact (pe_xf hx hn hz hf he hb).run pins z σ H Q I ⟨_, h1, rfl, rfl, dd, fs, v, hd, hH, hl, q⟩
theorem pss_len {b : List Stmt} {t : TS} (h : PSs X b t) : PSs X b (fun D σ H => σ.length = X.N.length → t D σ H) := ⟨fun pins s σ H D I hh => h.run pins s σ H D I (hh I.len)⟩
end
def TTold (K : PySem.W.Frag) : (XK → Hp → VK → Prop) → Hp → VK → Prop := fun tl H Q => tl (fun cls d H' => rErr K cls d H' Q) H Q
theorem told_does {X : Cx} {Ng : List Str} {x y e n q : Str} {sg : Scope} {g : Addr} {cdg : Value} {b₀ : Stmt} {suite : List Stmt} {ts : Addr → Value → Option Addr → TS} {p1 p2 p3 p4 p7 p8 : Pos} (hge : sg.names.lookup e = some .globalImplicit) (hme : X.mg e = some (.ref (He.ga X.K "SortError"))) (hde : (e == ("__debug__" : Str)) = false)
    (nd : Ng.Nodup) (hi : Ng[1]? = some n) (hln : sg.names.lookup n = some .local) (h0 : ∀ f : Addr, (L2.start Ng [V.ref f])[0]? = some (some (V.ref f)))
    (hsu : ∀ (s : Shared) (H : Hp) (a : Addr) (oe : Obj) (cls : Value) (d : Option Addr) (pn : List (Addr × Obj)), Zc cls d oe → (∃ vs, oe.data = .fields vs) → PSs ((cxOf C8.CX0 X.prog X.w X.K X.mg X.base Ng x sg g cdg X.A X.stack s H C8.E0).nox.suite a ((a, oe) :: pn)) (b₀ :: suite) (ts a cls d))
    (hp : ∀ (a : Addr) (cls : Value) (d : Option Addr) (H : Hp) (Q : VK) (D : Ends) (σ : L2.St), rErr X.K cls d H Q → D.rt = Q → σ.length = Ng.length → ts a cls d D (σ.set 1 (some (.ref a))) H) :
    GivesTo X Ng x sg g cdg [.Try [.Return (some (.Call (.Name y p1) [] [] p2)) p3] [.ExceptHandler (some (.Name e p4)) (some n) (b₀ :: suite) p7] [] [] p8] y q (TTold X.K) := by
  intro f c' s H Q tl act hc h
  have hgl : Gl (cxOf C8.CX0 X.prog X.w X.K X.mg X.base Ng x sg g cdg X.A X.stack s H C8.E0).nox e := hge
  refine ⟨_, pss_one (ps_try_as (X := (cxOf C8.CX0 X.prog X.w X.K X.mg X.base Ng x sg g cdg X.A X.stack s H C8.E0).nox) (c := .ref (He.ga X.K "SortError")) (i := 1)
      (ts := fun a cls d D σ H => σ.length = Ng.length → ts a cls d D σ H)
      (tb := fun W D σ H => ∃ Ech : XK, (∀ cls d σ' H', Ech cls d H' → W cls d σ' H') ∧ σ[0]? = some (some (.ref f)) ∧ H c' = some (CodeO c' q) ∧ tl Ech H D.rt)
      rfl rfl nd hi hln ⟨hgl, hde, .inl hme⟩ LamX.takes0 (fun W pn xe tk _ => ?_) (fun a oe cls d pn hz hf => pss_len (hsu s H a oe cls d pn hz hf))), ?_⟩
  · refine ⟨fun pins z σ H' D I h' => ?_⟩
    obtain ⟨Ech, hW, h1, h2, h3⟩ := h'
    exact (pss_one (ps_ret (pos := p3) (act W pn xe Ech p1 p2 tk hW))).run pins z σ H' D I ⟨h1, h2, h3⟩
  · refine ⟨fun cls d H' => rErr X.K cls d H' Q, fun cls d σ' H' hx => ?_, h0 f, hc, h⟩
    obtain ⟨z, v, rfl, E, r⟩ := id hx
    exact ⟨true, E.s, fun _ a _ hl => hp a _ d H' Q _ σ' hx rfl (by simpa using hl), fun z => nomatch z⟩
abbrev Lams : Type := List (He.Defn × Str)
def tabs (T : Lams) (K : PySem.W.Frag) : List (Addr × Str) := T.map fun p => ((He.cT K p.1).2, p.2)
structure TabF (K : PySem.W.Frag) (mg : Str → Option Value) (base : Heap) (T : Lams) : Prop where
  tb : ∀ p ∈ T, TabB base mg (He.cT K p.1).1 (He.cT K p.1).2
  nd : ((tabs T K).map (·.1)).Nodup
theorem uniq_of : ∀ {T : List (Addr × Str)} {c : Addr} {q : Str}, (T.map (·.1)).Nodup → (c, q) ∈ T → ∀ p ∈ T, p.1 = c → p.2 = q
  | [], _, _, _, h => nomatch h
  | z :: r, c, q, nd, h => fun p hp e => by
    rw [List.map_cons, List.nodup_cons] at nd
    rcases List.mem_cons.mp h with e1 | h1
    · rcases List.mem_cons.mp hp with e2 | h2
      · rw [e2, ← e1]
      · exact (nd.1 (List.mem_map.mpr ⟨p, h2, by rw [e, ← e1]⟩)).elim
    · rcases List.mem_cons.mp hp with e2 | h2
      · exact (nd.1 (List.mem_map.mpr ⟨_, h1, by rw [← e2, e]⟩)).elim
      · exact uniq_of nd.2 h1 p h2 e
structure ToldFn (P : Program) (w : World) (K : PySem.W.Frag) (mg : Str → Option Value) (base : Heap) (x : Str) : Prop where
  ex : ∃ (Ng : List Str) (y : Str) (g : Addr) (pr : Arguments) (bd : List Stmt) (sc : Scope) (dV kV doc pm cdv ct oc : Value) (an od : Option Addr) (osl : Array (Option Value)),
    K.lookup g = some ⟨oc, od, .func (PySem.W.fnOf x x pr bd sc dV kV doc pm an cdv ct), osl⟩ ∧ PySem.W.codeIn K cdv x = true ∧ L2.Binds K (PySem.W.fnOf x x pr bd sc dV kV doc pm an cdv ct) [y] [] ∧ FnScope Ng [y] sc ∧ Ng[0]? = some y ∧ Vis sc y ∧
    mg x = some (.ref g) ∧ PySem.W.keepIn K (.ref g) = true ∧ (y == ("__debug__" : Str)) = false ∧ (y == ("__classdict__" : Str)) = false ∧
    ∀ (X : Cx), X.prog = P → X.w = w → X.K = K → X.mg = mg → X.base = base → Room 2 X.A → ∀ q, GivesTo X Ng x sc g cdv bd y q (TTold K)
section
variable {X : Cx}
end
section
variable {P : Program} {w : World} {K : PySem.W.Frag} {mg : Str → Option Value} {base : Heap} {k : Nat} {x qual : Str} {at_ : Str × Option Str} {params : Arguments} {body : List Stmt} {scope : Scope} {N ps : List Str} {sp : Sp} {fd : FuncData}
theorem warm_of {t : Addr → Addr → Option Addr → TS} {y : Str} (F : FunD K x x params body scope [] [] (He.fAd K (x, none)) fd) (b : Binds K fd [y] []) (S : FnScope N [y] scope) (hm : mg x = some (.ref (He.fAd K (x, none))))
    (h : ∀ (D a : Addr) (d : Option Addr) (oe : Obj), ExcC K D → Zc (.ref D) d oe → (∃ vs, oe.data = .fields vs) → ∀ (cdv : Value) (A : Around) (outer : List Env) (z : Shared) (H : Hp), PSs (cxP P w K mg base N x scope (He.fAd K (x, none)) cdv A outer z H a oe) body (t D a d)) : WarmFn P w K mg base x N t := by
  obtain ⟨oc, od, dV, kV, doc, pm, an, cdv, ct, osl, rfl, lk, hcd, _, _⟩ := F.ex
  exact ⟨_, _, _, _, _, dV, kV, doc, pm, cdv, ct, oc, an, od, osl, lk, hcd, S, b, hm, F.kp, fun D a d oe C hz hf A outer z H => h D a d oe C hz hf cdv A outer z H⟩
theorem told_of {y : Str} (F : FunD K x x params body scope [] [] (He.fAd K (x, none)) fd) (b : Binds K fd [y] []) (S : FnScope N [y] scope) (hN : N[0]? = some y) (hv : Vis scope y) (hm : mg x = some (.ref (He.fAd K (x, none)))) (h1 : (y == ("__debug__" : Str)) = false) (h2 : (y == ("__classdict__" : Str)) = false)
    (h : ∀ (cdv : Value) (X : Cx), X.prog = P → X.w = w → X.K = K → X.mg = mg → X.base = base → Room 2 X.A → ∀ q, GivesTo X N x scope (He.fAd K (x, none)) cdv body y q (TTold K)) : ToldFn P w K mg base x := by
  obtain ⟨oc, od, dV, kV, doc, pm, an, cdv, ct, osl, rfl, lk, hcd, _, _⟩ := F.ex
  exact ⟨_, _, _, _, _, _, dV, kV, doc, pm, cdv, ct, oc, an, od, osl, lk, hcd, b, S, hN, hv, hm, F.kp, h1, h2, fun X => h cdv X⟩
end
def xCount (K : PySem.W.Frag) : V → List V → Hp → VK → Prop := fun x xs H Q => ∃ a ys y, x = V.ref a ∧ xs = [y] ∧ SqL K H a ys ∧ flatV y = true ∧ ys.all flatV = true ∧ Q (.int ((ys.countP fun z => eqV z y : Nat) : Int)) H
theorem countU : ∀ {ys : List V} {its : List Value} {y : V}, Vals ys its → ys.all flatV = true → its.countP (eqU y) = ys.countP fun z => eqV z y
  | _, _, _, .nil, _ => rfl
  | z :: ys, u :: its, y, .cons r rr, f => by
    rw [List.all_cons, Bool.and_eq_true] at f
    rw [List.countP_cons, List.countP_cons, countU rr f.2, eqU_of r f.1]
theorem mt_countF {X : Cx} : MtR X "list.count" (xCount X.K) := by
  intro pins z σ H x xs v us Q I rx rxs h
  obtain ⟨a, ys, y, rfl, rfl, hs, fy, fys, q⟩ := h
  cases rx
  obtain ⟨u, rfl, ru⟩ := rxs.one
  obtain ⟨its, rv, ⟨⟨cls, dd, data, sl⟩, n, ho, hc, hdn, hd⟩, hlen⟩ := I.list hs
  cases (show cls = _ from hc)
  cases (show data = _ from hd)
  refine call_meets PySem.F.slot_list_count ⟨_, ho, rfl⟩ PySem.F.entry_list_count (PySem.F.args_list_count_2 _ _) (SeqAt.list_countAt a its.toArray n dd sl u (eqU y)) ⟨ho, fun u' hu' => mem_eqAt ru fy rv fys u' (by simpa using hu'), ?_⟩
  have ec : its.toArray.toList.countP (eqU y) = ys.countP fun z => eqV z y := countU rv fys
  rw [ec]
  exact ⟨.int ((ys.countP fun z => eqV z y : Nat) : Int), H, I.tok _, ⟨_, rfl⟩, q⟩
theorem room_suite {A : Around} {env : Env} {h : Option Value} (r : Room 2 A) : L2H.RoomH 1 ((A.deeper env).mark h) := ⟨(r.deeper env).dp, (r.deeper env).un⟩
end Rs

namespace Rs
open PySem PySem.Spec PyProof.Rows L2
theorem overB_ok {K : PySem.W.Frag} {C : Addr} (q : overB K C = true) : ∃ nm q N bs bm sn sub ab col dd k0 k1 k2 k3 k5, K.lookup C = some (excClassObj nm q C N bs bm true sn sub ab col dd k0 k1 k2 k3 k5 "ValueError.__new__") ∧ PySem.HandSPX.refsVE bm = true := by
  unfold overB at q
  split at q
  · rename_i dd cd sl ho
    split at q
    · rename_i C' bm k0 k1 k2 k3 n k5 hm hs
      simp only [Bool.and_eq_true, beq_iff_eq, Bool.not_eq_true'] at q
      obtain ⟨rfl, rfl, hdel, hdict, ht⟩ := q
      obtain ⟨nm, bs, mro, ns, qn, hd, sn, sub, ab, col, del⟩ := cd
      dsimp only at hm hdel hdict
      subst hm hdel hdict
      have hsl : sl = #[k0, k1, k2, k3, some (.builtin "ValueError.__new__"), k5] := by
        obtain ⟨l⟩ := sl
        simp only at hs
        rw [hs]
      subst hsl
      exact ⟨nm, qn, ns, bs, bm, sn, sub, ab, col, dd, k0, k1, k2, k3, k5, ho, ht⟩
    · cases q
  · cases q
structure BaseInit (K : PySem.W.Frag) (S : Addr) : Prop where
  sp : PySem.W.specialIn K (.ref S) "__getattribute__" = some (some (.builtin "type.__getattribute__"))
  rd : PySem.W.readsIn K S (.type "type") = true
  fi : PySem.W.findCls K (.ref S) (.type "type") "__init__" = some (.val (.builtin "ValueError.__init__"))
structure ErrMk (K : PySem.W.Frag) (x f : Str) : Prop where
  oex : OexC K (He.ga K x)
  noF : PySem.W.findIn K (.ref (He.ga K x)) f = some none
  iC : PySem.W.findIn K (.ref (He.ga K x)) "__init__" = some (some (.ref (He.fAd K (x, some "__init__"))))
  tI : PySem.W.typeIn K (.ref (He.fAd K (x, some "__init__"))) = some (.type "function")
  base : BaseInit K (He.ga K "SortError")
theorem emB_ok {K : PySem.W.Frag} {x f : Str} (h : emB x f K = true) : ErrMk K x f := by
  unfold emB at h
  simp only [Bool.and_eq_true, decide_eq_true_eq] at h
  obtain ⟨h1, h2, h3, h4, h5, h6, h7, h8, h9, h10, h11⟩ := h
  refine ⟨⟨overB_ok h1, h2, h3, h4, h5⟩, h6, h7, h8, ⟨h9, h10, ?_⟩⟩
  split at h11
  · rename_i n q
    rw [q, beq_iff_eq.mp h11]
  · cases h11
section
variable {X : Cx} {e : Expr} {es : List Expr} {ta : TA} {p1 p2 pos : Pos}
theorem pe_binit {pl : Sem Bool} {x : Str} {S : Addr} (B : BaseInit X.K S) (hg : Gl X x) (hm : X.mg x = some (.ref S)) (ha : PA X (e :: es) ta) (hdb : (x == ("__debug__" : Str)) = false := by decide)
    (hc : eval (.Call (.Attribute (.Name x p1) "__init__" p2) (e :: es) [] pos) X.env = (do
      let ov ← eval (.Name x p1) X.env
      standAt p2.atName
      let (f, first) ← holding [ov] (getMethod ov "__init__" pl)
      callWith pos f first (backTo pos (starEach (e :: es) X.env)) (backToKw pos (keywordEach [] X.env))) := by rfl)
    (he : starEach (e :: es) X.env = (false, eval e X.env) :: starEach es X.env := by rfl) (hpl : (backTo pos (starEach es X.env)).any (·.1) = false := by rfl) :
    PE X (.Call (.Attribute (.Name x p1) "__init__" p2) (e :: es) [] pos) (tVeI X.K ta) := by
  refine ⟨fun pins s σ H Q I h => ?_⟩
  refine PySem.W.methodCall_KW (ld_glob I hg hm ?_ hdb) hc
  refine PySem.W.method_cls I.kIn B.sp (PySem.W.cls_value I.kIn B.rd B.fi (by decide +kernel) ?_)
  show wpAny _ _ (callWith pos (Value.builtin "ValueError.__init__") [] (backTo pos (starEach (e :: es) X.env)) []) _ _ _
  refine PyProof.Rows.callWith_method1 (thn (ha.run pos pins _ σ H _ (I.tok _) h) fun us s1 ⟨vs, H1, I1, r1, a, C, ws, ev, hl, T, ea, q⟩ => ?_) he hpl
  subst ev
  cases r1 with
  | @cons _ u0 _ ur ra rw' =>
    obtain rfl : u0 = Value.ref a := ra
    have hlen : ur.length ≤ sizeLine := by
      rw [← Paired.length rw', sizeLine_eq]
      omega
    exact oinit_ok T I1 ea hlen fun s' J => ⟨.non, H1, J, rfl, q⟩
end
def sp_einit (K : PySem.W.Frag) (f : Str) : Sp := fun vs H Q E => match vs with
  | [sv, pv] => ∃ a C : Addr, sv = .ref a ∧ OexC K C ∧ PySem.W.findIn K (.ref C) f = some none ∧ H a = some (exo a C none) ∧ ∀ dx, H dx = none → dx ≠ a → Q .non (upd (upd H dx (exd dx [(f, pv)])) a (exo a C (some dx)))
  | _ => False
def t_einit (K : PySem.W.Frag) (f m : Str) : TS := tSeq (tDrop (tVeI K (tCons (tVar 0) (tConsC (.str m) tNil)))) (tOst K f (tVar 0) (tVar 1))
theorem pure_einit {K : PySem.W.Frag} {f m : Str} {N : List Str} (hN : N.length = 2) : ∀ vs H Q E, sp_einit K f vs H Q E → t_einit K f m { nx := fun _ H' => Q .non H', rt := Q } (start N vs) H := by
  intro vs H Q E h
  match vs, h with
  | [sv, pv], h =>
    obtain ⟨a, C, rfl, T, hf, ea, k⟩ := h
    have e : start N [V.ref a, pv] = [some (V.ref a), some pv] := by
      obtain ⟨x, y, rfl⟩ : ∃ x y, N = [x, y] := by
        match N, hN with
        | [x, y], _ => exact ⟨x, y, rfl⟩
      rfl
    rw [e]
    exact ⟨_, rfl, a, C, [.str m], rfl, by show 1 ≤ 1000; decide, T, ea, _, rfl, _, rfl, a, C, rfl, T, hf, .inl ⟨ea, fun dx hd ne => k dx hd ne⟩⟩
def tRaiseX (K : PySem.W.Frag) (x f : Str) (E : XK) (ta : TA) : TS := fun D σ H => ta σ H fun vs H1 => ∃ v, vs = [v] ∧ ∀ d, H1 d = none → E (.ref (He.ga K x)) (some d) (upd H1 d (.xd [(f, v)]))
section
variable {X : Cx} {E : XK} {k : Nat} {x f : Str} {e : Expr} {ta : TA} {p pos pos2 : Pos}
theorem pa_weak {es : List Expr} (ha : PA X es ta) : PA X es (fun σ H Q => ∃ R : List V → Hp → Prop, ta σ H R ∧ ∀ vs H1, R vs H1 → Q vs H1) :=
  ⟨fun pos pins s σ H Q I ⟨R, h, m⟩ => thn (ha.run pos pins s σ H R I h) fun us s1 ⟨vs, H1, I1, r, q⟩ => ⟨vs, H1, I1, r, m vs H1 q⟩⟩
theorem ps_raiseX (em : ErrMk X.K x f) (F : Can X.prog X.w X.K X.mg X.base k (x, some "__init__") ["self", f] (sp_einit X.K f)) (hr : Room (k + 1) X.A) (hg : Gl X x) (hm : X.mg x = some (.ref (He.ga X.K x))) (hc : X.calm = true) (tk : Takes X (fun cls d _ H => E cls d H)) (ha : PA X [e] ta)
    (hdb : (x == ("__debug__" : Str)) = false := by decide) (he : starEach [e] X.env = (false, eval e X.env) :: starEach [] X.env := by rfl) (hpl : (backTo pos (starEach [] X.env)).any (·.1) = false := by rfl) :
    PS X (.Raise (some (.Call (.Name x p) [e] [] pos)) none pos2) (tRaiseX X.K x f E ta) := by
  obtain ⟨fd, F, b, kp⟩ := F
  have P := ps_raise (pos := pos2) hc tk (pmk_oex (p := p) (pos := pos) (dvs := []) (ds := []) em.oex em.iC em.tI F hr b .nil passL hg hm (pa_weak ha) hdb he hpl)
  refine ⟨fun pins s σ H D I h => P.run pins s σ H D I ⟨_, h, fun vs H1 q => ?_⟩⟩
  obtain ⟨v, rfl, q⟩ := q
  refine ⟨by show 1 ≤ 1000; decide, fun a ha0 => ⟨a, _, rfl, em.oex, em.noF, upd_same, fun dx hdx ne => ⟨rfl, dx, [(f, v)], upd_same, ?_, ?_, ?_⟩⟩⟩
  · rw [upd_ne ne, upd_same]
  · rw [upd_ne ne] at hdx
    exact hdx
  · rw [upd_ne ne] at hdx
    have e : upd (del (upd (upd (upd H1 a (exo a (He.ga X.K x) none)) dx (exd dx [(f, v)])) a (exo a (He.ga X.K x) (some dx))) a) dx (.xd [(f, v)]) = upd H1 dx (.xd [(f, v)]) := by
      funext b
      by_cases hb : b = dx
      · rw [hb, upd_same, upd_same]
      · rw [upd_ne hb, upd_ne hb]
        by_cases hba : b = a
        · rw [hba, del_same, ha0]
        · rw [del_ne hba, upd_ne hba, upd_ne hb, upd_ne hba]
    rw [e]
    exact q dx hdx
end
end Rs

namespace Rs
open PySem PySem.Spec PyProof.Rows L2 LamX
section
variable {X : Cx} {pins : List (Addr × Obj)} {σ : L2.St} {H : Hp} {s : Shared}
abbrev Backs (X : Cx) (s : Shared) (H : Hp) (scope : Scope) (ce : Env) (fp : List Addr) : Prop :=
  ∀ (p5 : List (Addr × Obj)) (σ5 : L2.St) (H5 : Hp) (s5 : Shared), Inv (X.blk s H scope ce fp) p5 σ5 H5 s5 → ∃ (p6 : List (Addr × Obj)) (σ6 : L2.St), Inv X p6 σ6 H5 s5
theorem pe_lcU {elt tg iter : Expr} {ifs : List Expr} {scope : Scope} {own : List (Str × Nat)} {pos : Pos} {wi : TI} {g : TG} {tt : TT} {te : TE} (calm : X.calm = true) (nod : X.N.Nodup) (pi : PI X tg iter wi) (ok : BlkOk X.N X.env.scope scope own)
    (pg : ∀ (s : Shared) (H : Hp) (C : Addr) (cl : List (Str × Addr)) (fp : List Addr), PG (X.blk s H scope (compEnvC scope cl C X.env) fp) tg g)
    (pt : ∀ (s : Shared) (H : Hp) (C : Addr) (cl : List (Str × Addr)) (fp : List Addr), Backs X s H scope (compEnvC scope cl C X.env) fp → PTs (X.blk s H scope (compEnvC scope cl C X.env) fp) ifs tt)
    (pe : ∀ (s : Shared) (H : Hp) (C : Addr) (cl : List (Str × Addr)) (fp : List Addr), Backs X s H scope (compEnvC scope cl C X.env) fp → PE (X.blk s H scope (compEnvC scope cl C X.env) fp) elt te)
    (fold : ∀ x, foldedSetIterable iter X.env x = pure x := by intro _; rfl) : PE X (.ListComp elt [⟨tg, iter, ifs, 0⟩] scope pos) (tLc wi g tt te (own.map (·.2))) := by
  refine ⟨fun pins s σ H Q I todo => ?_⟩
  rw [eval_ListComp]
  have cells : ∀ z ∈ scope.names, z.2 = .free → ∃ c, X.env.cells.lookup z.1 = some c := fun z hz e => I.ok.has _ (ok.free z hz e)
  refine wpAny_comprehension_free rfl fold (closure_ok cells) ok.kind (fun z hz e => by rw [ok.uniq z hz, e]) (thn (pi.run pins s σ H _ I todo) fun xv s1 q1 => thn q1 fun itv s2 q2 => ?_)
  obtain ⟨it, fp, tn, T0, H2, rfl, I2, T, t2, f2, q2⟩ := q2
  refine wpAny_newObj_type (newEnv_comp ?_) (Nat.zero_le _)
  obtain ⟨L, eL⟩ : ∃ L, s2.heap.objs.size = L := ⟨_, rfl⟩
  have L0 : H2 L = none := I2.hok.fresh (Nat.le_of_eq eL)
  obtain ⟨W, ⟨m0, w0⟩, turn⟩ := q2 L L0
  rw [eL]
  obtain ⟨sA, eA⟩ : ∃ sA : Shared, sA = { s2 with heap := s2.heap.push { cls := .type "list", data := .seq ([] : List Value).toArray } } := ⟨_, rfl⟩
  have hA : sA.heap = s2.heap.push { cls := .type "list", data := .seq ([] : List Value).toArray } := by rw [eA]
  have kA : ∀ b o, s2.heap.get? b = some o → sA.heap.get? b = some o := fun b o e => by
    rw [hA]
    exact Heap.get?_push_of_some _ e
  obtain ⟨HA, eH⟩ : ∃ HA, upd H2 L (.lst []) = HA := ⟨_, rfl⟩
  have IA : Inv X pins σ HA sA := by
    rw [eA, ← eH]
    refine I2.laid (t' := s2.toks) (fun b o e => Heap.get?_push_of_some _ e) (Nat.le_of_eq eL) ⟨Nat.zero_le _, [], 0, .nil, ?_⟩
    rw [← eL]
    exact Heap.get?_push_size _ rfl
  have sz : ∀ b ∈ fp, b < s2.heap.objs.size := fun b hb => let ⟨o, e, _⟩ := T.obj _ _ t2 b hb; Heap.lt_size e
  have fA : ∀ b ∈ fp, FpOk X pins HA b ∧ b < sA.heap.objs.size := fun b hb => by
    have := sz b hb
    refine ⟨⟨?_, (f2 b hb).2⟩, by rw [hA, Heap.size_push]; exact Nat.lt_succ_of_lt this⟩
    rw [← eH, upd_ne (by rw [← eL]; exact Nat.ne_of_lt this)]
    exact (f2 b hb).1
  have tA : tn 0 sA.heap := T.keep _ _ _ t2 fun b _ o e => kA b o e
  have IB := block_start IA ok nod fA
  have nA : ∀ b ∈ fp, HA b = none := fun b hb => (fA b hb).1.1
  rw [eH] at w0
  have bk : ∀ ce, Backs X sA HA scope ce fp := fun ce p5 σ5 H5 s5 J =>
    ⟨pins, σ, IA.call' (ch := fp) J.os J.base J.hok J.bare fun b hb => ⟨(fA b hb).1.2.2.2.1, (fA b hb).1.2.1, (fA b hb).1.2.2.2.2.1, (fA b hb).1.2.2.2.2.2⟩⟩
  have PGb := pg sA HA sA.heap.objs.size (cellsFrom (sA.heap.objs.size + 1) scope.names (cloFrom X.env.cells scope.names [])) fp
  have PTb := pt sA HA sA.heap.objs.size (cellsFrom (sA.heap.objs.size + 1) scope.names (cloFrom X.env.cells scope.names [])) fp (bk _)
  have PEb := pe sA HA sA.heap.objs.size (cellsFrom (sA.heap.objs.size + 1) scope.names (cloFrom X.env.cells scope.names [])) fp (bk _)
  show codeAny _ _ (.compStart _ 0 (.ref it) (.ref L) (compEnvC scope (cellsFrom ((s2.heap.push _).objs.size + 1) scope.names (cloFrom X.env.cells scope.names [])) (s2.heap.push _).objs.size X.env)) (compPost _ _ _ _ _ (.ref L) (s2.heap.push _).objs.size) { s2 with heap := pushCells ((s2.heap.push _).push { cls := .type "dict", data := .dict #[] }) scope.names }
  rw [← hA]
  obtain ⟨ce, eC⟩ : ∃ ce, compEnvC scope (cellsFrom (sA.heap.objs.size + 1) scope.names (cloFrom X.env.cells scope.names [])) sA.heap.objs.size X.env = ce := ⟨_, rfl⟩
  rw [eC] at IB PGb PTb PEb ⊢
  have cL : ce.locals = sA.heap.objs.size := by rw [← eC]; rfl
  rw [← cL]
  obtain ⟨sB, eB⟩ : ∃ sB : Shared, ({ sA with heap := pushCells (sA.heap.push { cls := .type "dict", data := .dict #[] }) scope.names } : Shared) = sB := ⟨_, rfl⟩
  have eB2 : ({ s2 with heap := pushCells (sA.heap.push { cls := .type "dict", data := .dict #[] }) scope.names } : Shared) = sB := by rw [← eB, eA]
  rw [eB2]
  rw [eB] at IB
  have tB : tn 0 sB.heap := T.keep _ _ _ tA fun b _ o e => by rw [← eB]; exact pushCells_keeps _ _ _ _ (Heap.get?_push_of_some _ e)
  have stat : ∀ {σ' : L2.St} {H' : Hp} {t : Shared}, Inv (X.blk sA HA scope ce fp) [] σ' H' t → (∀ b ∈ fp, H' b = none) → ∀ b ∈ fp, FpOk (X.blk sA HA scope ce fp) [] H' b := fun {σ' H' t} J hn b hb =>
    ⟨hn b hb, (J.ok.exf b hb).1, J.ok.exfs b hb, .inl hb, fun x c e => (J.ok.exf b hb).2 x c e, fun p hp => by simp at hp⟩
  have loop : codeAny (model X.prog X.w) X.A (.compLoop (.ListComp elt [⟨tg, iter, ifs, 0⟩] scope pos) 0 (.ref it) (.ref L) ce) (compPost (model X.prog X.w) X.A X.xe none (EP X pins σ Q) (.ref L) ce.locals) sB := by
    refine compLoop_any (fun n t => ∃ j H', Inv (X.blk sA HA scope ce fp) [] (wipe σ (own.map (·.2))) H' t ∧ tn j t.heap ∧ (∀ b ∈ fp, H' b = none) ∧ W j n H') ?_ m0 ⟨0, HA, IB, tB, nA, w0⟩
    rintro n t5 ⟨j, H5, I5, t5', n5, w5⟩
    rcases turn j n H5 w5 with ⟨stop, fin⟩ | ⟨go, Nx, hNx, step⟩
    · refine thnF (T.done (X.blk sA HA scope ce fp) rfl rfl rfl calm j [] t5 _ H5 (fun _ _ => False) I5 (stat I5 n5) t5' stop) fun r t6 ⟨hr, I6⟩ => ?_
      subst hr
      have I7 : Inv X pins σ H5 t6 := IA.call' (ch := fp) I6.os I6.base I6.hok I6.bare fun b hb => ⟨(fA b hb).1.2.2.2.1, (fA b hb).1.2.1, (fA b hb).1.2.2.2.2.1, (fA b hb).1.2.2.2.2.2⟩
      have nC : H5 ce.locals = none := I6.free
      obtain ⟨m, hn, _⟩ := I6.loc
      have hn : t6.heap.Ns ce.locals m := hn
      obtain ⟨a0, a1, a2, a3, a4, a5⟩ := IA.fpOk (Nat.le_of_eq cL.symm) nC
      exact ⟨m, hn, fun h3 sb3 => ⟨.ref L, H5, I7.turned (t' := t6.toks) (fun b o hb e => (sb3.2 b hb).trans e) a0 a1 a3 a4 a5, rfl, fin⟩⟩
    · refine thnF (T.item (X.blk sA HA scope ce fp) rfl rfl rfl calm j [] t5 _ H5 (fun _ _ => False) I5 (stat I5 n5) t5' go) fun r t6 ⟨v, hr, q6⟩ => ?_
      subst hr
      refine thnF q6 fun _ t7 ⟨x, H7, I7, r7, y7, k7, n7⟩ => ?_
      refine thnF (PGb.run _ t7 _ H7 x v _ (I7.pinned (stat I7 n7) (T.obj _ _ k7)) r7 (step x H7 y7)) fun _ t8 ⟨σ8, H8, I8, hw8, q8⟩ => ?_
      refine thnF (PTb.run _ t8 σ8 H8 _ I8 q8) fun b t9 ⟨H9, I9, q9⟩ => ?_
      have next : ∀ {t : Shared} {H' : Hp}, Inv (X.blk sA HA scope ce fp) ([] ++ pinsAt fp t7.heap) σ8 H' t → Nx H' → ∃ m, m < n ∧ ∃ j H', Inv (X.blk sA HA scope ce fp) [] (wipe σ (own.map (·.2))) H' t ∧ tn j t.heap ∧ (∀ b ∈ fp, H' b = none) ∧ W j m H' := fun {t H'} J nx => by
        obtain ⟨m, hm, w'⟩ := hNx H' nx
        have pin : ∀ b ∈ fp, ∀ o, t7.heap.get? b = some o → t.heap.get? b = some o ∧ H' b = none := fun b hb o e =>
          let z := J.pin (b, o) (List.mem_append_right _ (List.mem_append_right _ (mem_pinsAt hb e)))
          ⟨z.1, z.2.1⟩
        refine ⟨m, hm, j + 1, H', (J.unpinned (pins := [])).weak (by rw [← hw8, wipe_length]) (fun k w e => by rw [← hw8] at e; exact (wipe_some e).1), T.keep _ _ _ k7 fun b hb o e => (pin b hb o e).1, fun b hb => ?_, w'⟩
        obtain ⟨o, e, _⟩ := T.obj _ _ k7 b hb
        exact (pin b hb o e).2
      cases b with
      | false =>
        simp only [Bool.false_eq_true, if_false] at q9 ⊢
        exact next I9 q9
      | true =>
        simp only [if_true] at q9 ⊢
        refine thnF (PEb.run _ t9 σ8 H9 _ I9 q9) fun z tz ⟨yv, Hz, Iz, rz, acc, eD, szD, nx⟩ => ?_
        exact app_ok (X := X.blk sA HA scope ce fp) Iz eD szD rz fun tq Iq => next Iq nx
  exact codeAny_compStart_list loop (T.self X.A 0 _ _ _ tB loop)
end
structure LamF where
  q : Str
  ps : Arguments
  body : Expr
  scope : Scope
  clo : List (Str × Addr)
def LamF.obj (L : LamF) (pm : Value) (c : Addr) (ct : Value) : Obj := PySem.W.kla_obj "<lambda>" L.q L.ps L.body L.scope L.clo pm c ct
def LamO (L : LamF) (f c : Addr) : HO := .ext fun h => ∃ pm ct, h.get? f = some (L.obj pm c ct)
def LamIn (L : LamF) (f c : Addr) (H : Hp) : Prop := H f = some (LamO L f c) ∧ H c = some (CodeO c L.q)
def LamN (LS : List LamF) (j : Nat) (f : Addr) (H : Hp) : Prop := ∃ L c, LS[j]? = some L ∧ LamIn L f c H
theorem LamN.ext {LS : List LamF} {j : Nat} {f : Addr} {H H' : Hp} (h : LamN LS j f H) (e : ∀ b φ, H b = some (.ext φ) → H' b = some (.ext φ)) : LamN LS j f H' :=
  let ⟨L, c, a, b, d⟩ := h
  ⟨L, c, a, e _ _ b, e _ _ d⟩
def tLamM (T : List (Addr × Str)) (LS : List LamF) (j : Nat) : TE := fun σ H Q => Tabs T H ∧ ∀ f H1, ExtN H H1 → Tabs T H1 → H f = none → LamN LS j f H1 → Q (.ref f) H1
section
variable {X : Cx} {pins : List (Addr × Obj)} {σ : L2.St} {H : Hp} {s : Shared}
theorem lam_laid {L : LamF} {c' : Addr} {g : Heap} {pm ct : Value} {t : Nat} {HT : Hp} (I : Inv X pins σ HT { s with heap := g, toks := t }) :
    Inv X pins σ (upd HT g.objs.size (LamO L g.objs.size c')) { s with heap := g.push (L.obj pm c' ct), toks := t } := by
  have at_ : (g.push (L.obj pm c' ct)).get? g.objs.size = some (L.obj pm c' ct) := Heap.get?_push_size _ rfl
  refine I.laid (t' := t) (fun b o e => Heap.get?_push_of_some _ e) (Nat.le_refl _) ⟨⟨pm, ct, at_⟩, ⟨_, at_⟩, fun h1 h2 a st => ?_⟩
  obtain ⟨pm', ct', e⟩ := a
  exact ⟨pm', ct', st _ e⟩
theorem pe_lamM {T : Lams} {p0 : He.Defn} {LS : List LamF} {j : Nat} {params : Arguments} {body : Expr} {scope : Scope} {pos : Pos} (TF : TabF X.K X.mg X.base T) (hmT : (p0, X.env.qual ++ "<lambda>") ∈ T) (hcode : X.env.code = .ref (He.codeOf X.K p0))
    (hL : LS[j]? = some ⟨X.env.qual ++ "<lambda>", params, body, scope, cloFrom X.env.cells scope.names []⟩) (LS0 : lamSB X.env.scope scope = true) (hdef : defaultsOf params X.env = ([], [])) : PE X (.Lambda params body scope pos) (tLamM (tabs T X.K) LS j) := by
  refine ⟨fun pins s σ H Q I h => ?_⟩
  obtain ⟨hT, h⟩ := h
  have mT : ((He.cT X.K p0).2, X.env.qual ++ "<lambda>") ∈ tabs T X.K := List.mem_map.mpr ⟨_, hmT, rfl⟩
  have un := uniq_of TF.nd mT
  have TB := TF.tb _ hmT
  have hfree := (lamS_by LS0).has I.ok
  generalize (He.cT X.K p0).2 = P at mT un TB
  generalize hq : X.env.qual ++ "<lambda>" = q at mT un hL
  obtain ⟨tab, hP, ht, ha⟩ := hT _ mT
  have bP : s.heap.BuiltinsAt X.mg P := TB.bm.keeps I.bk
  have gP : s.heap.get? P = some { cls := .none, data := .fields tab } := I.hok P _ hP
  refine PySem.W.kla_eval hdef ?_
  rw [hq]
  have new : ∀ {HT : Hp} {g : Heap} {c' : Addr} {pm ct : Value} {t : Nat}, s.heap.objs.size ≤ g.objs.size → Inv X pins σ HT { s with heap := g, toks := t } → ExtN H HT → Tabs (tabs T X.K) HT → HT c' = some (CodeO c' q) →
      EP X pins σ Q (.ref g.objs.size) { s with heap := g.push (PySem.W.kla_obj "<lambda>" q params body scope (cloFrom X.env.cells scope.names []) pm c' ct), toks := t } := fun {HT g c' pm ct t} hz J eN tN co => by
    have J2 := lam_laid (L := ⟨q, params, body, scope, cloFrom X.env.cells scope.names []⟩) (c' := c') (pm := pm) (ct := ct) J
    have fr : HT g.objs.size = none := J.hok.fresh (Nat.le_refl _)
    have fr0 : H g.objs.size = none := I.hok.fresh hz
    have up : ∀ b o, HT b = some o → upd HT g.objs.size (LamO ⟨q, params, body, scope, cloFrom X.env.cells scope.names []⟩ g.objs.size c') b = some o := fun b o e => by
      rw [upd_ne (ne_of_none e fr)]
      exact e
    refine ⟨.ref g.objs.size, _, J2, rfl, h _ _ (fun b o e n => up b o (eN b o e n)) (tN.ext up) fr0 ⟨_, c', hL, upd_same, up _ _ co⟩⟩
  cases hc : codeAmong pos tab.toList with
  | none =>
    refine PySem.W.kla_makeFunction (mg := X.mg) (P := P) (ps := tab) (closure_ok hfree) I.ok.glob (I.mod.glob.keeps I.bk) hcode (TB.code.keeps I.bk) gP ht hc TB.gP bP fun c' ctv g tk hx hge hlt hrec htb => ?_
    obtain ⟨c2, oc, vs, t, e2, hoc, hd, hv⟩ := hrec
    cases e2
    have nC : H c' = none := I.hok.fresh hge
    have J := inv_table (t' := tk) (more := #[rawInt pos.line, rawInt pos.col, .ref c']) (h' := g) (q := q) I hP (fun b o hb e => hx b o hb e) htb hge ⟨oc, vs, t, hoc, hd, hv⟩
    have eN : ExtN H (upd (upd H P (.tbl (tab ++ #[rawInt pos.line, rawInt pos.col, .ref c']))) c' (CodeO c' q)) := fun b o e n => by
      rw [upd_ne (ne_of_none e nC), upd_ne (fun z => n tab (Option.some.inj (e.symm.trans (by rw [z]; exact hP))))]
      exact e
    refine new (Nat.le_trans hge (Nat.le_of_lt hlt)) J eN (fun p hp => ?_) upd_same
    by_cases hb : p.1 = P
    · have e3 : (tab ++ #[rawInt pos.line, rawInt pos.col, .ref c']).toList = tab.toList ++ [rawInt pos.line, rawInt pos.col, .ref c'] := by simp
      rw [un p hp hb, hb]
      refine ⟨_, by rw [upd_ne (ne_of_none hP nC), upd_same], by rw [e3]; exact PySem.TriplesOk_snoc _ _ _ _ ht, fun p' cv hcv => ?_⟩
      rw [e3] at hcv
      rcases among_app _ ht hcv with z | z
      · obtain ⟨c0, e1, e2⟩ := ha p' cv z
        exact ⟨c0, e1, eN _ _ e2 codeO_ne⟩
      · exact ⟨c', z, upd_same⟩
    · obtain ⟨tab', a1, a2, a3⟩ := hT p hp
      refine ⟨tab', by rw [upd_ne (ne_of_none a1 nC), upd_ne hb]; exact a1, a2, fun p' cv hcv => ?_⟩
      obtain ⟨c0, e1, e2⟩ := a3 p' cv hcv
      exact ⟨c0, e1, eN _ _ e2 codeO_ne⟩
  | some cv =>
    obtain ⟨c', rfl, hco⟩ := ha pos cv hc
    refine PySem.W.kla_makeFunctionHit (mg := X.mg) (P := P) (ps := tab) (closure_ok hfree) I.ok.glob (I.mod.glob.keeps I.bk) hcode (TB.code.keeps I.bk) gP ht hc bP fun ctv g tk hx hsz => ?_
    exact new hsz (I.kept (t' := tk) fun b o e => hx b o e) (ExtN.refl H) hT hco
end
section
variable {X : Cx} {pins : List (Addr × Obj)} {σ : L2.St} {HX H HZ : Hp} {sX s s1 : Shared}
theorem lam_in {A : Around} {outer : List Env} {E : XK} {scope : Scope} {f c' : Addr} {g : Heap} {tk : Nat} {fs : List Addr} (I : Inv X pins σ HX sX) (L : LamS X.env.scope scope) (e0 : Env0 X.prog X.w X.K X.mg X.base A outer s1 HZ) (hd : A.handled = none)
    (un : Un fs [] HX HZ sX.heap s1.heap) (ns : g.Ns s1.heap.objs.size fun y => ([] : List (Str × Value)).reverse.lookup y) (kp : ∀ b o, s1.heap.get? b = some o → g.get? b = some o) :
    Inv (lamCx X A outer s1 HZ E scope f c') [] σ HZ { s1 with heap := g, toks := tk } := by
  have has := L.has I.ok
  have back : ∀ {y c}, (cloFrom X.env.cells scope.names []).lookup y = some c → X.env.cells.lookup y = some c := fun {y c} e => by
    rcases cloFrom_mem (PySem.mem_of_lookup e) with hm | ⟨h1, h2⟩
    · exact nomatch hm
    · obtain ⟨d, hc⟩ := has _ h1 rfl
      have hc : X.env.cells.lookup y = some d := hc
      rw [show c = d by rw [h2, hc] <;> rfl]
      exact hc
  have fw : ∀ {y}, scope.names.lookup y = some .free → ∃ c, (cloFrom X.env.cells scope.names []).lookup y = some c := fun {y} hl =>
    mem_lookup (cloFrom_has (cells := X.env.cells) (acc := []) (show (y, NameKind.free) ∈ scope.names from PySem.mem_of_lookup hl))
  have stays : ∀ {c : Addr} {v : Option Value}, HX c = none → sX.heap.IsCell c v → g.IsCell c v := fun {c v} n ⟨o, ho, hd⟩ => by
    obtain ⟨sl, q⟩ := un.any ho n (by simp)
    exact ⟨_, kp _ _ q, hd⟩
  have noex : ∀ b : Addr, b ∉ (lamCx X A outer s1 HZ E scope f c').ex := fun b z => nomatch (show b ∈ ([] : List Addr) from z)
  have seen : ∀ y, scope.names.lookup y = some .free → Vis X.env.scope y := fun y k => .inr (L.free _ (PySem.mem_of_lookup k) rfl)
  refine ⟨⟨e0.mod, L.kind, rfl, rfl, Nat.le_refl _, fun y z c e1 e2 => I.ok.inj y z c (back e1) (back e2), fun y hy => ?_, fun y c z _ => ?_, fun _ => hd, Around.frames_deeper e0.frames, .inr ⟨rfl, rfl⟩, fun b z => absurd z (noex b), e0.bs, e0.bsz, fun b _ _ => noex b, fun b z => absurd z (noex b), e0.funs, e0.frf⟩,
    rfl, e0.bare, Un.kept kp, ⟨_, ns, fun i y v e1 e2 e3 => ?_⟩, fun y c e => ?_, e0.hok.fresh (Nat.le_refl _), fun y c e => ?_, fun q hq => absurd (show q ∈ ([] : List (Addr × Obj)) ++ [] from hq) (by simp), e0.hok.kept kp, I.len⟩
  · rcases (show scope.names.lookup y = some .cell ∨ scope.names.lookup y = some .free from hy) with k | k
    · exact ((L.own _ (PySem.mem_of_lookup k)).2 rfl).elim
    · exact fw k
  · exact nomatch (show false = true from z)
  · rcases (show Vis scope y from e3) with k | k | k
    · exact ((L.own _ (PySem.mem_of_lookup k)).1 rfl).elim
    · exact ((L.own _ (PySem.mem_of_lookup k)).2 rfl).elim
    · obtain ⟨m, hn, hl⟩ := I.loc
      obtain ⟨u, r, q⟩ := hl i y v e1 e2 (seen y k)
      obtain ⟨d, h2⟩ := fw k
      have c1 := back h2
      refine ⟨u, r, .inr ⟨.inr k, d, h2, ?_⟩⟩
      rcases q with ⟨k', _⟩ | ⟨_, c3, e', z⟩
      · have k' : X.env.scope.names.lookup y = some .local := k'
        rcases L.free _ (PySem.mem_of_lookup k) rfl with k2 | k2
        · rw [show X.env.scope.names.lookup y = _ from k2] at k'
          exact nomatch k'
        · rw [show X.env.scope.names.lookup y = _ from k2] at k'
          exact nomatch k'
      · rw [c1] at e'
        cases e'
        exact stays (I.freeC y _ c1) z
  · obtain ⟨v, z⟩ := I.cell y c (back e)
    exact ⟨v, stays (I.freeC y c (back e)) z⟩
  · obtain ⟨v, o, ho, _⟩ := I.cell y c (back e)
    exact un.free c o ho (I.freeC y c (back e)) (by simp)
structure LamOk (X : Cx) (k : Nat) (L : LamF) (t : XK → TE) : Prop where
  q : L.q = X.env.qual ++ "<lambda>"
  clo : L.clo = cloFrom X.env.cells L.scope.names []
  sc : lamSB X.env.scope L.scope = true
  bind : ∀ (pm cv ct : Value), bindArgs (PySem.W.kla_fn "<lambda>" L.q L.ps L.body L.scope L.clo pm cv ct) ⟨[], []⟩ = pure []
  body : ∀ (A : Around) (outer : List Env) (s : Shared) (H : Hp) (E : XK) (f c' : Addr), Room k (A.deeper (lamEnv X L.scope s.heap.objs.size f c')) → PE (lamCx X A outer s H E L.scope f c') L.body (t E)
theorem act_lam {Ng : List Str} {qg : Str} {sg : Scope} {g f c' : Addr} {cdg : Value} {L : LamF} {k i : Nat} {a : Str} {pn : List (Addr × Obj)} {xe : Value → Shared → Prop} {W : WX} {E : XK} {t : XK → TE} {p1 p2 : Pos} {A1 : Around} {outer1 : List Env}
    (I : Inv X pins σ HX sX) (O : LamOk X k L t) (un0 : Un (frs X.stack) [] HX H sX.heap s.heap) (sub : ∀ b ∈ frs X.stack, b ∈ frs outer1)
    (tk : Takes ((cxOf C8.CX0 X.prog X.w X.K X.mg X.base Ng qg sg g cdg A1 outer1 s H C8.E0).tr pn xe) W) (hW : ∀ cls d σ' H', E cls d H' → W cls d σ' H') (hr : Room (k + 1) (A1.deeper (envOfC qg sg s.heap.objs.size g cdg)))
    (hN : Ng[i]? = some a) (hv : Vis sg a) (hd : (a == ("__debug__" : Str)) = false) (hcd : (a == ("__classdict__" : Str)) = false) :
    PE ((cxOf C8.CX0 X.prog X.w X.K X.mg X.base Ng qg sg g cdg A1 outer1 s H C8.E0).tr pn xe) (.Call (.Name a p1) [] [] p2)
      (fun σZ HZ Q => σZ[i]? = some (some (.ref f)) ∧ HZ c' = some (CodeO c' L.q) ∧ HZ f = some (LamO L f c') ∧ t E σ HZ Q) := by
  obtain ⟨q, ps, body, scope, clo⟩ := L
  obtain ⟨e1, e2, sc, bind, hbody⟩ := O
  dsimp only at e1 e2 sc bind hbody
  subst e1 e2
  have S := lamS_by sc
  refine ⟨fun pinsZ sZ σZ HZ Q IZ h => ?_⟩
  obtain ⟨hs, hc, hf, ht⟩ := h
  refine wpAny_Call_Name_kw (thn ((pe_var (pos := p1) (i := i) hN hv hd hcd).run pinsZ sZ σZ HZ (fun v H1 => v = .ref f ∧ H1 = HZ) IZ ⟨.ref f, hs, rfl, rfl⟩) fun u s1 ⟨v, H1, I1, r1, q1⟩ => ?_)
  obtain ⟨rfl, rfl⟩ := q1
  obtain rfl : u = Value.ref f := r1
  obtain ⟨⟨pm, ct, of1⟩, _, _⟩ := I1.hok f _ hf
  refine PySem.W.callWith_F0 ⟨_, _, _, _, of1⟩ ?_
  obtain ⟨⟨oc, vs, t', hoc, hdc, hvc⟩, _, _⟩ := I1.hok c' _ hc
  have un : Un (frs outer1) [] HX H1 sX.heap s1.heap := (un0.mono sub fun b z => z).trans I1.base
  have rc : codeAny (model X.prog X.w) (A1.deeper (envOfC qg sg s.heap.objs.size g cdg)) (.call (.ref f) ⟨[], []⟩) (CR (L2.CX X.prog X.w) (envOfC qg sg s.heap.objs.size g cdg :: outer1) X.prog X.w H1 s1 Q E) s1 := by
    refine PySem.W.kla_callFunE hr.depth of1 rfl S.co S.gen rfl ⟨c', oc, vs, t', rfl, hoc, hdc, hvc⟩ ?_
    rw [bind]
    refine wpAny_pure (wpAny_newFunctionEnv (fun y hy => (S.own y hy).2) (fun y hy => absurd hy (by simp)) (fun h₁ hns hsb => ⟨I1.nolimit.fresh _ hsb, ?_⟩) S.kind)
    show codeAny _ _ (.expr body (lamEnv X scope s1.heap.objs.size f c')) _ _
    have kp : ∀ b o, s1.heap.get? b = some o → h₁.get? b = some o := fun b o e => hsb.extBut b o (Nat.ne_of_lt (Heap.lt_size e)) (Heap.get?_push_of_some _ e)
    have J := lam_in (E := E) (f := f) (c' := c') (tk := s1.toks + ([] : List (Str × Value)).length) I S I1.env0 hr.hd un hns kp
    refine PySem.W.kla_codeExpr (wpAny_mono ((hbody _ _ s1 H1 E f c' (hr.deeper _)).run [] _ _ H1 Q J ht) (fun v s' hq => ?_) fun e s' hq => hq)
    obtain ⟨w', H', J', rv, q⟩ := hq
    exact ⟨w', H', J'.os, J'.bare, J'.base, J'.hok, rv, q⟩
  refine wpAny_call (codeAny_mono rc fun r s' hq => ?_)
  cases r with
  | error e => exact passes_call tk hW pinsZ σZ H1 s1 e s' I1 hq
  | ok fl =>
    cases fl with
    | ret u => exact I1.after hq
    | next => exact hq.elim
    | brk => exact hq.elim
    | cont => exact hq.elim
end
def tToldV (K : PySem.W.Frag) (LS : List LamF) (tt : Nat → XK → Hp → VK → Prop) (i : Nat) : TE := fun σ H Q => ∃ f j, σ[i]? = some (some (.ref f)) ∧ LamN LS j f H ∧ tt j (fun cls d H' => rErr K cls d H' Q) H Q
section
variable {X : Cx} {pins : List (Addr × Obj)} {σ : L2.St} {HX : Hp} {sX : Shared}
abbrev allCx (X : Cx) (N : List Str) (x : Str) (sc : Scope) (g : Addr) (cd : Value) (s : Shared) (H : Hp) : Cx := cxOf C8.CX0 X.prog X.w X.K X.mg X.base N x sc g cd X.A X.stack s H C8.E0
theorem pe_toldV {N : List Str} {xa x a : Str} {sc scope : Scope} {ga C : Addr} {cda : Value} {LS : List LamF} {ts : Nat → XK → TE} {k i : Nat} {s3 : Shared} {H3 : Hp} {cl : List (Str × Addr)} {fp : List Addr} {p1 p2 p3 : Pos}
    (I : Inv X pins σ HX sX) (F : ToldFn X.prog X.w X.K X.mg X.base x) (hL : ∀ j L E σ H Q, ts j E σ H Q → LS[j]? = some L → LamOk X k L (ts j)) (hr : Room (k + 3) X.A)
    (bk : Backs (allCx X N xa sc ga cda sX HX) s3 H3 scope (compEnvC scope cl C (allCx X N xa sc ga cda sX HX).env) fp) (hg : Gl ((allCx X N xa sc ga cda sX HX).blk s3 H3 scope (compEnvC scope cl C (allCx X N xa sc ga cda sX HX).env) fp) x)
    (hN : N[i]? = some a) (hv : Vis (compEnvC scope cl C (allCx X N xa sc ga cda sX HX).env).scope a) (hdb : (x == ("__debug__" : Str)) = false) (hd : (a == ("__debug__" : Str)) = false) (hcd : (a == ("__classdict__" : Str)) = false) :
    PE ((allCx X N xa sc ga cda sX HX).blk s3 H3 scope (compEnvC scope cl C (allCx X N xa sc ga cda sX HX).env) fp) (.Call (.Name x p1) [.Name a p2] [] p3) (tToldV X.K LS (fun j E => ts j E σ) i) := by
  obtain ⟨Ng, y, g, pr, bd, sg, dV, kV, doc, pm, cdv, ct, oc, an, od, osl, lk, hcg, hb, Sg, hNg, hvg, hm, hk, h1, h2, hG⟩ := F.ex
  have rA : Room (k + 2) (allCx X N xa sc ga cda sX HX).A := hr.deeper _
  have bk : ∀ (p5 : List (Addr × Obj)) (σ5 : L2.St) (H5 : Hp) (s5 : Shared), Inv ((allCx X N xa sc ga cda sX HX).blk s3 H3 scope (compEnvC scope cl C (allCx X N xa sc ga cda sX HX).env) fp) p5 σ5 H5 s5 → ∃ (p6 : List (Addr × Obj)) (σ6 : L2.St), Inv (allCx X N xa sc ga cda sX HX) p6 σ6 H5 s5 := bk
  generalize hY : (allCx X N xa sc ga cda sX HX).blk s3 H3 scope (compEnvC scope cl C (allCx X N xa sc ga cda sX HX).env) fp = Y at bk hg ⊢
  have eP : Y.prog = X.prog := by rw [← hY]; rfl
  have eW : Y.w = X.w := by rw [← hY]; rfl
  have eK : Y.K = X.K := by rw [← hY]; rfl
  have eM : Y.mg = X.mg := by rw [← hY]; rfl
  have eB : Y.base = X.base := by rw [← hY]; rfl
  have eA : Y.A = (allCx X N xa sc ga cda sX HX).A := by rw [← hY]
  have eS : Y.stack = (allCx X N xa sc ga cda sX HX).stack := by rw [← hY]
  have eN : Y.N = N := by rw [← hY]; rfl
  have eE : Y.env = compEnvC scope cl C (allCx X N xa sc ga cda sX HX).env := by rw [← hY]
  refine ⟨fun pY s σY H Q IY h => ?_⟩
  obtain ⟨f, j, hf, ⟨L, c', hj, o1, o2⟩, ht⟩ := h
  obtain ⟨p6, σ6, IZ⟩ := bk pY σY H s IY
  have un0 : Un (frs X.stack) [] HX H sX.heap s.heap := IZ.base
  have sub : ∀ b ∈ frs X.stack, b ∈ frs (allCx X N xa sc ga cda sX HX).stack := fun b hb => by
    obtain ⟨e, he, q⟩ := List.mem_filterMap.mp hb
    exact List.mem_filterMap.mpr ⟨e, List.mem_cons_of_mem _ he, q⟩
  refine wpAny_Call_Name_kw (ld_glob IY hg (by rw [eM]; exact hm) ?_ hdb)
  refine PySem.W.callWith_K (h₀ := Y.base) IY.ok.mod.kin (by rw [eK]; exact hk) ?_ (by rfl) (by rfl)
  show wpAny _ _ (spliced ((false, eval (.Name a p2) Y.env) :: backTo p3 (starEach [] Y.env))) _ _ s
  refine Calls.spliced_cons (thn ((pe_var (pos := p2) (i := i) (by rw [eN]; exact hN) (by rw [eE]; exact hv) hd hcd).run pY s σY H (fun v H1 => v = .ref f ∧ H1 = H) IY ⟨.ref f, hf, rfl, rfl⟩) fun u s1 ⟨v, H1, I1, r1, q1⟩ => ?_)
  obtain ⟨rfl, rfl⟩ := q1
  obtain rfl : u = Value.ref f := r1
  refine Calls.spliced_nil ⟨I1.kIn, ?_⟩
  have un1 : Un (frs X.stack) [] HX H1 sX.heap s1.heap := by
    obtain ⟨p7, σ7, IZ1⟩ := bk pY σY H1 s1 I1
    exact IZ1.base
  have rc : codeAny (model Y.prog Y.w) Y.A (.call (.ref g) ⟨[.ref f], []⟩) (CR C8.CX0 Y.stack Y.prog Y.w H1 s1 Q C8.E0) s1 := by
    have env1 := I1.env0
    rw [eP, eW, eK, eM, eB, eA, eS] at env1
    rw [eP, eW, eA, eS]
    refine run_ofS (N := Ng) (ps := [y]) (us := [.ref f]) (vs := [.ref f]) lk hcg Sg rA env1 (hb s1 [.ref f] (by rw [← eK]; exact I1.kIn) rfl) (.cons rfl .nil) rfl fun hr' => ?_
    obtain ⟨t', ht', hq'⟩ := hG (allCx X N xa sc ga cda sX HX) rfl rfl rfl rfl rfl (rA.mono (by omega)) L.q f c' s1 H1 Q (fun E H' Q' => H' f = some (LamO L f c') ∧ ts j E σ H' Q')
      (fun W pn xe E p1 p2 tk hW => act_lam (X := X) (A1 := (allCx X N xa sc ga cda sX HX).A) (outer1 := (allCx X N xa sc ga cda sX HX).stack) (i := 0) I (hL j L _ _ _ _ ht hj) un1 sub tk hW hr' hNg hvg h1 h2) o2 ⟨o1, ht⟩
    exact ⟨t', ht'.nox, hq'⟩
  refine wpAny_call (codeAny_mono rc fun r s2 hq => ?_)
  cases r with
  | error e => exact (show False from hq).elim
  | ok fl =>
    cases fl with
    | ret u => exact I1.after hq
    | next => exact hq.elim
    | brk => exact hq.elim
    | cont => exact hq.elim
end
def lamT (l : List (Nat × (XK → TE))) (j : Nat) : XK → TE := fun E σ H Q => ∃ t, l.lookup j = some t ∧ t E σ H Q
def LamsOk (X : Cx) (k : Nat) (LS : List LamF) (l : List (Nat × (XK → TE))) : Prop := ∀ j L t, l.lookup j = some t → LS[j]? = some L → LamOk X k L t
theorem lams_nil {X : Cx} {k : Nat} {LS : List LamF} : LamsOk X k LS [] := fun j L t h => nomatch h
theorem lams_cons {X : Cx} {k j : Nat} {LS : List LamF} {L : LamF} {t : XK → TE} {l : List (Nat × (XK → TE))} (e : LS[j]? = some L) (O : LamOk X k L t) (r : LamsOk X k LS l) : LamsOk X k LS ((j, t) :: l) := fun i L' t' h h2 => by
  rw [List.lookup_cons] at h
  split at h
  · rename_i c
    have c : i = j := by simpa using c
    subst c
    rw [e] at h2
    cases h2
    cases h
    exact O
  · exact r i L' t' h h2
theorem lams_put {X : Cx} {k j : Nat} {LS : List LamF} {t : XK → TE} {l : List (Nat × (XK → TE))} {q : Str} {ps : Arguments} {body : Expr} {scope : Scope} {clo : List (Str × Addr)} (e : LS[j]? = some ⟨q, ps, body, scope, clo⟩) (hq : q = X.env.qual ++ "<lambda>") (hc : clo = cloFrom X.env.cells scope.names [])
    (sc : lamSB X.env.scope scope = true) (bind : ∀ (pm cv ct : Value), bindArgs (PySem.W.kla_fn "<lambda>" q ps body scope clo pm cv ct) ⟨[], []⟩ = pure [])
    (hb : ∀ (A : Around) (outer : List Env) (s : Shared) (H : Hp) (E : XK) (f c' : Addr), Room k (A.deeper (lamEnv X scope s.heap.objs.size f c')) → PE (lamCx X A outer s H E scope f c') body (t E)) (r : LamsOk X k LS l) : LamsOk X k LS ((j, t) :: l) :=
  lams_cons e ⟨hq, hc, sc, bind, hb⟩ r
theorem lamT_eq {l : List (Nat × (XK → TE))} {j : Nat} {t : XK → TE} (h : l.lookup j = some t) : lamT l j = t := by
  funext E σ H Q
  unfold lamT
  rw [h]
  exact propext ⟨fun ⟨t', e, z⟩ => by cases e; exact z, fun z => ⟨t, rfl, z⟩⟩
theorem LamsOk.at {X : Cx} {k : Nat} {LS : List LamF} {l : List (Nat × (XK → TE))} (h : LamsOk X k LS l) : ∀ j L E σ H Q, lamT l j E σ H Q → LS[j]? = some L → LamOk X k L (lamT l j) := fun j L E σ H Q ht hj => by
  obtain ⟨t, e, _⟩ := ht
  rw [lamT_eq e]
  exact h j L t e hj
structure AllFn (P : Program) (w : World) (K : PySem.W.Frag) (mg : Str → Option Value) (base : Heap) (x told : Str) (Ng : List Str) (tr : List LamF → (Nat → XK → Hp → VK → Prop) → TS) (n : Nat) : Prop where
  ex : ∃ (y z : Str) (g : Addr) (pr : Arguments) (bd : List Stmt) (sc : Scope) (dV kV doc pm cdv ct oc : Value) (an od : Option Addr) (osl : Array (Option Value)),
    K.lookup g = some ⟨oc, od, .func (PySem.W.fnOf x x pr bd sc dV kV doc pm an cdv ct), osl⟩ ∧ PySem.W.codeIn K cdv x = true ∧ L2.Binds K (PySem.W.fnOf x x pr bd sc dV kV doc pm an cdv ct) [y, z] [] ∧ FnScope Ng [y, z] sc ∧
    mg x = some (.ref g) ∧ PySem.W.keepIn K (.ref g) = true ∧
    ∀ (X : Cx), X.prog = P → X.w = w → X.K = K → X.mg = mg → X.base = base → ∀ (s : Shared) (H : Hp), Room n (allCx X Ng x sc g cdv s H).A → ∀ (LS : List LamF) (tt : Nat → XK → Hp → VK → Prop),
      (∀ (scope : Scope) (s3 : Shared) (H3 : Hp) (C : Addr) (cl : List (Str × Addr)) (fp : List Addr) (i : Nat) (a : Str) (p1 p2 p3 : Pos), Backs (allCx X Ng x sc g cdv s H) s3 H3 scope (compEnvC scope cl C (allCx X Ng x sc g cdv s H).env) fp →
        Gl ((allCx X Ng x sc g cdv s H).blk s3 H3 scope (compEnvC scope cl C (allCx X Ng x sc g cdv s H).env) fp) told → Ng[i]? = some a → Vis (compEnvC scope cl C (allCx X Ng x sc g cdv s H).env).scope a → (told == ("__debug__" : Str)) = false → (a == ("__debug__" : Str)) = false → (a == ("__classdict__" : Str)) = false →
        PE ((allCx X Ng x sc g cdv s H).blk s3 H3 scope (compEnvC scope cl C (allCx X Ng x sc g cdv s H).env) fp) (.Call (.Name told p1) [.Name a p2] [] p3) (tToldV X.K LS tt i)) →
      PSs (allCx X Ng x sc g cdv s H) bd (tr LS tt)
def tAllC (LS : List LamF) (l : List (Nat × (XK → TE))) (tr : List LamF → (Nat → XK → Hp → VK → Prop) → TS) (N : List Str) (ta : TA) : TE := fun σ H Q => ta σ H fun vs H1 => vs.length = 2 ∧ tr LS (fun j E => lamT l j E σ) { nx := fun _ H' => Q .non H', rt := Q } (L2.start N vs) H1
theorem pe_allC {X : Cx} {x told : Str} {Ng : List Str} {tr : List LamF → (Nat → XK → Hp → VK → Prop) → TS} {n k : Nat} {LS : List LamF} {l : List (Nat × (XK → TE))} {e1 e2 : Expr} {ta : TA} {p pos : Pos} (F : AllFn X.prog X.w X.K X.mg X.base x told Ng tr n) (T : ToldFn X.prog X.w X.K X.mg X.base told) (hg : Gl X x)
    (hr : Room (k + 3) X.A) (hr2 : Room (n + 1) X.A) (ha : PA X [e1, e2] ta) (hL : LamsOk X k LS l)
    (hdb : (x == ("__debug__" : Str)) = false := by decide) (he : starEach [e1, e2] X.env = (false, eval e1 X.env) :: starEach [e2] X.env := by rfl) (hpl : (backTo pos (starEach [e2] X.env)).any (·.1) = false := by rfl) :
    PE X (.Call (.Name x p) [e1, e2] [] pos) (tAllC LS l tr Ng ta) := by
  obtain ⟨y, z, g, pr, bd, sc, dV, kV, doc, pm, cdv, ct, oc, an, od, osl, lk, hcd, hb, S, hm, hk, hbody⟩ := F.ex
  refine ⟨fun pins s σ H Q I h => ?_⟩
  refine wpAny_Call_Name_kw (ld_glob I hg hm ?_ hdb)
  refine PySem.W.callWith_K (h₀ := X.base) I.ok.mod.kin hk (thn (ha.run pos pins s σ H _ I h) fun us s1 ⟨vs, H1, I1, r, hl, q⟩ => ⟨I1.kIn, ?_⟩) he hpl
  have r' := r.length
  have rc : codeAny (model X.prog X.w) X.A (.call (.ref g) ⟨us, []⟩) (CR C8.CX0 X.stack X.prog X.w H1 s1 Q C8.E0) s1 := by
    refine run_ofS (N := Ng) (ps := [y, z]) (us := us) (vs := vs) lk hcd S hr2 I1.env0 (by have z := hb s1 us I1.kIn (by rw [List.append_nil, ← r', hl]; rfl); rw [List.append_nil] at z; exact z) r (by rw [hl]; rfl) fun hr' => ?_
    exact ⟨_, hbody X rfl rfl rfl rfl rfl s1 H1 hr' LS (fun j E => lamT l j E σ) (fun scope s3 H3 C cl fp i a p1 p2 p3 bk g1 g2 g3 g4 g5 g6 => pe_toldV I1 T hL.at hr bk g1 g2 g3 g4 g5 g6), q⟩
  refine wpAny_call (codeAny_mono rc fun r s2 hq => ?_)
  cases r with
  | error e => exact (show False from hq).elim
  | ok fl =>
    cases fl with
    | ret u => exact I1.after hq
    | next => exact hq.elim
    | brk => exact hq.elim
    | cont => exact hq.elim
section
variable {P : Program} {w : World} {K : PySem.W.Frag} {mg : Str → Option Value} {base : Heap} {k : Nat} {x qual : Str} {at_ : Str × Option Str} {params : Arguments} {body : List Stmt} {scope : Scope} {N ps : List Str} {sp : Sp} {fd : FuncData}
theorem all_of {y z told : Str} {n : Nat} {tr : List LamF → (Nat → XK → Hp → VK → Prop) → TS} (F : FunD K x x params body scope [] [] (He.fAd K (x, none)) fd) (b : Binds K fd [y, z] []) (S : FnScope N [y, z] scope) (hm : mg x = some (.ref (He.fAd K (x, none))))
    (h : ∀ (cdv : Value) (X : Cx), X.prog = P → X.w = w → X.K = K → X.mg = mg → X.base = base → ∀ (s : Shared) (H : Hp), Room n (allCx X N x scope (He.fAd K (x, none)) cdv s H).A → ∀ (LS : List LamF) (tt : Nat → XK → Hp → VK → Prop),
      (∀ (sc : Scope) (s3 : Shared) (H3 : Hp) (C : Addr) (cl : List (Str × Addr)) (fp : List Addr) (i : Nat) (a : Str) (p1 p2 p3 : Pos), Backs (allCx X N x scope (He.fAd K (x, none)) cdv s H) s3 H3 sc (compEnvC sc cl C (allCx X N x scope (He.fAd K (x, none)) cdv s H).env) fp →
        Gl ((allCx X N x scope (He.fAd K (x, none)) cdv s H).blk s3 H3 sc (compEnvC sc cl C (allCx X N x scope (He.fAd K (x, none)) cdv s H).env) fp) told → N[i]? = some a → Vis (compEnvC sc cl C (allCx X N x scope (He.fAd K (x, none)) cdv s H).env).scope a → (told == ("__debug__" : Str)) = false → (a == ("__debug__" : Str)) = false → (a == ("__classdict__" : Str)) = false →
        PE ((allCx X N x scope (He.fAd K (x, none)) cdv s H).blk s3 H3 sc (compEnvC sc cl C (allCx X N x scope (He.fAd K (x, none)) cdv s H).env) fp) (.Call (.Name told p1) [.Name a p2] [] p3) (tToldV X.K LS tt i)) →
      PSs (allCx X N x scope (He.fAd K (x, none)) cdv s H) body (tr LS tt)) : AllFn P w K mg base x told N tr n := by
  obtain ⟨oc, od, dV, kV, doc, pm, an, cdv, ct, osl, rfl, lk, hcd, _, _⟩ := F.ex
  exact ⟨_, _, _, _, _, _, dV, kV, doc, pm, cdv, ct, oc, an, od, osl, lk, hcd, b, S, hm, F.kp, fun X => h cdv X⟩
theorem fn_ofM (F : FunD K x qual params body scope [] [] (He.fAd K at_) fd) (S : FnScope N ps scope) (len : ∀ vs H Q E, sp vs H Q E → vs.length = ps.length)
    (t : List LamF → XK → TS) (h : ∀ (A : Around) (outer : List Env) (s : Shared) (H : Hp) (E : XK), Room k (A.deeper (envOfC qual scope s.heap.objs.size (He.fAd K at_) (.ref (He.codeOf K at_)))) →
      ∃ LS, PSs (cxOf (L2.CX P w) P w K mg base N qual scope (He.fAd K at_) (.ref (He.codeOf K at_)) A outer s H E) body (t LS E))
    (pure_ : ∀ LS vs H Q E, sp vs H Q E → t LS E { nx := fun _ H' => Q .non H', rt := Q } (start N vs) H) : FnOk P w K mg base (L2.CX P w) (k + 1) (He.fAd K at_) fd ps sp := by
  obtain ⟨oc, od, dV, kV, doc, pm, an, cdv, ct, osl, rfl, lk, hcd, _, _⟩ := F.ex
  obtain ⟨c, rfl⟩ := He.codeIn_ref hcd
  have e : He.codeOf K at_ = c := He.codeOf_eq lk rfl
  rw [e] at h
  exact fn_of lk hcd S len fun A outer s H vs Q E hr hsp => let ⟨LS, g⟩ := h A outer s H E hr; ⟨t LS E, g, pure_ LS vs H Q E hsp⟩
theorem can_ofM (F : FunD K x qual params body scope [] [] (He.fAd K at_) fd) (b : Binds K fd ps []) (S : FnScope N ps scope) (len : ∀ vs H Q E, sp vs H Q E → vs.length = ps.length)
    (t : List LamF → XK → TS) (h : ∀ (A : Around) (outer : List Env) (s : Shared) (H : Hp) (E : XK), Room k (A.deeper (envOfC qual scope s.heap.objs.size (He.fAd K at_) (.ref (He.codeOf K at_)))) →
      ∃ LS, PSs (cxOf (L2.CX P w) P w K mg base N qual scope (He.fAd K at_) (.ref (He.codeOf K at_)) A outer s H E) body (t LS E))
    (pure_ : ∀ LS vs H Q E, sp vs H Q E → t LS E { nx := fun _ H' => Q .non H', rt := Q } (start N vs) H) : Can P w K mg base (k + 1) at_ ps sp :=
  ⟨fd, fn_ofM F S len t h pure_, b, F.kp⟩
end
end Rs

namespace Rs
open PySem PySem.Spec PyProof.Rows L2
section
variable {X : Cx}
end
end Rs

namespace Rs
open PySem PySem.Spec PyProof.Rows L2
abbrev Hds := List (Option Pr)
def hd (hs : Hds) (s : Nat) : Option Pr := (hs.getD s none)
def hdV (hs : Hds) (s : Nat) : Pr := (hd hs s).getD c0.2
def pick (o : Ord) (hs : Hds) : Option Nat → Option Nat → Option Nat
  | none, b => b
  | some i, none => some i
  | some i, some j => if before o (hdV hs i) (hdV hs j) then some i else some j
def leafOf (hs : Hds) (s : Nat) : Option Nat := if (hd hs s).isSome then some s else none
def bst (bs : List (Option Nat)) (k : Nat) : Option Nat := bs.getD k none
structure TreeOk (o : Ord) (hs : Hds) (bs : List (Option Nat)) (many : Nat) (bad : Nat → Prop) : Prop where
  len : bs.length = 2 * many
  leaf : ∀ s, s < many → bst bs (many + s) = leafOf hs s
  knot : ∀ k, 1 ≤ k → k < many → ¬ bad k → bst bs k = pick o hs (bst bs (2 * k)) (bst bs (2 * k + 1))
end Rs

namespace Rs
open PySem PySem.Spec PyProof.Rows L2
structure TxtTree (K : PySem.W.Frag) : Prop where
  cl : Cls K (He.ga K "Tree")
  n_order : NoAttr K (He.ga K "Tree") "order"
  n_heads : NoAttr K (He.ga K "Tree") "heads"
  n_many : NoAttr K (He.ga K "Tree") "many"
  n_looks : NoAttr K (He.ga K "Tree") "looks"
  n_best : NoAttr K (He.ga K "Tree") "best"
def f_Tree (x0 x1 x2 x3 x4 : V) : List (Str × V) := [(("order" : Str), x0), (("heads" : Str), x1), (("many" : Str), x2), (("looks" : Str), x3), (("best" : Str), x4)]
def TreeOb (K : PySem.W.Frag) (H : Hp) (p : Addr) (x0 x1 x2 x3 x4 : V) : Prop := ∃ dx, H p = some (.ins (He.ga K "Tree") dx (f_Tree x0 x1 x2 x3 x4))
section
variable {K : PySem.W.Frag} {x0 x1 x2 x3 x4 y : V} {H : Hp} {Q : VK} {p : Addr} {D : Ends} {σ : L2.St}
end
section
variable {K : PySem.W.Frag} {x0 x1 x2 x3 x4 y : V} {H : Hp} {Q : VK} {p dx : Addr} {D : Ends} {σ : L2.St}
end
theorem But.tupOf {S : List Addr} {H H' : Hp} (k : But S H H') (h : ∀ b ∈ S, ∀ xs, H b ≠ some (.tup xs)) : TupLe H H' := fun c xs e => k c _ e (fun hm => h c hm xs e)
theorem nt_lst {H : Hp} {b : Addr} {vs : List V} (h : H b = some (.lst vs)) : ∀ xs, H b ≠ some (.tup xs) := fun xs e => by rw [h] at e; cases e
theorem nt_ins {H : Hp} {b C dx : Addr} {fs : List (Str × V)} (h : H b = some (.ins C dx fs)) : ∀ xs, H b ≠ some (.tup xs) := fun xs e => by rw [h] at e; cases e
theorem all3 {P : Addr → Prop} {a b c : Addr} (h1 : P a) (h2 : P b) (h3 : P c) : ∀ x ∈ [a, b, c], P x := fun x hx => by
  simp only [List.mem_cons, List.not_mem_nil, or_false] at hx
  rcases hx with rfl | rfl | rfl <;> assumption
def NatAt : Rel (Option Nat) := fun _ v q => match q with
  | none => v = .non
  | some n => v = .int ((n : Nat) : Int)
theorem NatAt.st : Stable NatAt := fun _ _ _ _ _ h => h
structure TreeS (K : PySem.W.Frag) (H : Hp) (p lo lh lb : Addr) (o : Ord) (hs : Hds) (bs : List (Option Nat)) (many : Nat) (looks : Int) : Prop where
  ob : TreeOb K H p (.ref lo) (.ref lh) (.int (many : Int)) (.int looks) (.ref lb)
  ord : Lst TurnAt H lo o
  heads : Lst OptAt H lh hs
  best : Lst NatAt H lb bs
  nhb : lh ≠ lb
  noh : lo ≠ lh
  nob : lo ≠ lb
theorem TreeOb.keep {K : PySem.W.Frag} {H H' : Hp} {p : Addr} {x0 x1 x2 x3 x4 : V} (h : TreeOb K H p x0 x1 x2 x3 x4) (k : ∀ o, H p = some o → H' p = some o) : TreeOb K H' p x0 x1 x2 x3 x4 := let ⟨dx, e⟩ := h; ⟨dx, k _ e⟩
section
variable {K : PySem.W.Frag} {H H' : Hp} {p lo lh lb : Addr} {o : Ord} {hs hs' : Hds} {bs bs' : List (Option Nat)} {many : Nat} {looks looks' : Int} {vs : List V}
theorem TreeS.tup (T : TreeS K H p lo lh lb o hs bs many looks) (k : But [p, lh, lb] H H') : TupLe H H' := by
  obtain ⟨dx, e⟩ := T.ob
  obtain ⟨_, e2, _⟩ := T.heads
  obtain ⟨_, e3, _⟩ := T.best
  exact k.tupOf (all3 (nt_ins e) (nt_lst e2) (nt_lst e3))
theorem TreeS.keep (T : TreeS K H p lo lh lb o hs bs many looks) (t : TupLe H H') (k : ∀ b, b = p ∨ b = lo ∨ b = lh ∨ b = lb → ∀ u, H b = some u → H' b = some u) : TreeS K H' p lo lh lb o hs bs many looks :=
  ⟨T.ob.keep (k _ (.inl rfl)), T.ord.keep TurnAt.st t (k _ (.inr (.inl rfl))), T.heads.keep OptAt.st t (k _ (.inr (.inr (.inl rfl)))), T.best.keep NatAt.st t (k _ (.inr (.inr (.inr rfl)))), T.nhb, T.noh, T.nob⟩
theorem TreeS.same (T : TreeS K H p lo lh lb o hs bs many looks) (s : Same H H') : TreeS K H' p lo lh lb o hs bs many looks := T.keep (TupLe.same s) fun b _ u => s b u
end
def lk : Option Nat → Option Nat → Int
  | some _, some _ => 1
  | _, _ => 0
def HdOk (ks : List Str) (hs : Hds) (a : Option Nat) : Prop := ∀ i, a = some i → ∃ q, hs[i]? = some (some q) ∧ isRow ks q.2 = true
theorem HdOk.of {ks : List Str} {hs : Hds} {a : Option Nat} (hok : ∀ s p, hd hs s = some p → isRow ks p.2 = true) (h : ∀ s, a = some s → (hd hs s).isSome = true) : HdOk ks hs a := fun i hi => by
  have := h i hi
  cases hq : hd hs i with
  | none => rw [hq] at this; cases this
  | some q =>
    refine ⟨q, ?_, hok i q hq⟩
    unfold hd at hq
    rw [List.getD_eq_getElem?_getD] at hq
    cases e : hs[i]? with
    | none => rw [e] at hq; cases hq
    | some z => rw [e] at hq; rw [← hq]; rfl
end Rs

namespace Rs
open PySem PySem.Spec PyProof.Rows L2
structure TxtSieve (K : PySem.W.Frag) : Prop where
  cl : Cls K (He.ga K "Sieve")
  n_kinds : NoAttr K (He.ga K "Sieve") "kinds"
  n_room : NoAttr K (He.ga K "Sieve") "room"
  n_many : NoAttr K (He.ga K "Sieve") "many"
def f_Sieve (x0 x1 x2 : V) : List (Str × V) := [(("kinds" : Str), x0), (("room" : Str), x1), (("many" : Str), x2)]
def SieveOb (K : PySem.W.Frag) (H : Hp) (p : Addr) (x0 x1 x2 : V) : Prop := ∃ dx, H p = some (.ins (He.ga K "Sieve") dx (f_Sieve x0 x1 x2))
section
variable {K : PySem.W.Frag} {x0 x1 x2 y : V} {H : Hp} {Q : VK} {p : Addr} {D : Ends} {σ : L2.St}
theorem fl_Sieve_kinds : (f_Sieve x0 x1 x2).lookup ("kinds" : Str) = some x0 := by
  unfold f_Sieve
  rw [lk_hd]
theorem g_Sieve_kinds (T : TxtSieve K) (h : SieveOb K H p x0 x1 x2) (q : Q x0 H) : rFld K "kinds" (.ref p) H Q := let ⟨dx, h⟩ := h; ⟨p, _, dx, _, _, rfl, h, T.cl, T.n_kinds, fl_Sieve_kinds, q⟩
theorem fl_Sieve_room : (f_Sieve x0 x1 x2).lookup ("room" : Str) = some x1 := by
  unfold f_Sieve
  rw [lk_tl (by decide +kernel), lk_hd]
theorem g_Sieve_room (T : TxtSieve K) (h : SieveOb K H p x0 x1 x2) (q : Q x1 H) : rFld K "room" (.ref p) H Q := let ⟨dx, h⟩ := h; ⟨p, _, dx, _, _, rfl, h, T.cl, T.n_room, fl_Sieve_room, q⟩
theorem fl_Sieve_many : (f_Sieve x0 x1 x2).lookup ("many" : Str) = some x2 := by
  unfold f_Sieve
  rw [lk_tl (by decide +kernel), lk_tl (by decide +kernel), lk_hd]
theorem pf_Sieve_many : putF "many" y (f_Sieve x0 x1 x2) = f_Sieve x0 x1 y := by
  unfold f_Sieve
  rw [put_tl (by decide +kernel), put_tl (by decide +kernel), put_hd]
theorem g_Sieve_many (T : TxtSieve K) (h : SieveOb K H p x0 x1 x2) (q : Q x2 H) : rFld K "many" (.ref p) H Q := let ⟨dx, h⟩ := h; ⟨p, _, dx, _, _, rfl, h, T.cl, T.n_many, fl_Sieve_many, q⟩
theorem s_Sieve_many (T : TxtSieve K) (h : SieveOb K H p x0 x1 x2) (q : ∀ dx, H p = some (.ins (He.ga K "Sieve") dx (f_Sieve x0 x1 x2)) → D.nx σ (upd H p (.ins (He.ga K "Sieve") dx (f_Sieve x0 x1 y)))) : rSFl K "many" (.ref p) y D σ H := by
  obtain ⟨dx, h⟩ := h
  refine ⟨p, _, dx, _, rfl, h, T.cl, T.n_many, by show 3 < 1000; decide, ?_⟩
  rw [pf_Sieve_many]
  exact q dx h
theorem no_Sieve_put : (f_Sieve x0 x1 x2).lookup ("put" : Str) = none := by
  unfold f_Sieve
  rw [lk_tl (by decide +kernel), lk_tl (by decide +kernel), lk_tl (by decide +kernel), lk_nil]
theorem no_Sieve_take : (f_Sieve x0 x1 x2).lookup ("take" : Str) = none := by
  unfold f_Sieve
  rw [lk_tl (by decide +kernel), lk_tl (by decide +kernel), lk_tl (by decide +kernel), lk_nil]
theorem no_Sieve_remains : (f_Sieve x0 x1 x2).lookup ("remains" : Str) = none := by
  unfold f_Sieve
  rw [lk_tl (by decide +kernel), lk_tl (by decide +kernel), lk_tl (by decide +kernel), lk_nil]
end
def i_Sieve_1 (x0 : V) : List (Str × V) := [(("kinds" : Str), x0)]
def i_Sieve_2 (x0 x1 : V) : List (Str × V) := [(("kinds" : Str), x0), (("room" : Str), x1)]
def i_Sieve_3 (x0 x1 x2 : V) : List (Str × V) := [(("kinds" : Str), x0), (("room" : Str), x1), (("many" : Str), x2)]
section
variable {K : PySem.W.Frag} {x0 x1 x2 y : V} {H : Hp} {Q : VK} {p dx : Addr} {D : Ends} {σ : L2.St}
theorem n_Sieve_kinds (T : TxtSieve K) (h : H p = some (.ins (He.ga K "Sieve") dx [])) (q : D.nx σ (upd H p (.ins (He.ga K "Sieve") dx (i_Sieve_1  y)))) : rSFl K "kinds" (.ref p) y D σ H := by
  refine ⟨p, _, dx, _, rfl, h, T.cl, T.n_kinds, by show 0 < 1000; decide, ?_⟩
  have e : putF "kinds" y [] = i_Sieve_1  y := by
    rw [put_nil] <;> rfl
  rw [e]
  exact q
theorem n_Sieve_room (T : TxtSieve K) (h : H p = some (.ins (He.ga K "Sieve") dx (i_Sieve_1 x0))) (q : D.nx σ (upd H p (.ins (He.ga K "Sieve") dx (i_Sieve_2 x0 y)))) : rSFl K "room" (.ref p) y D σ H := by
  refine ⟨p, _, dx, _, rfl, h, T.cl, T.n_room, by show 1 < 1000; decide, ?_⟩
  have e : putF "room" y (i_Sieve_1 x0) = i_Sieve_2 x0 y := by
    unfold i_Sieve_1
    rw [put_tl (by decide +kernel), put_nil] <;> rfl
  rw [e]
  exact q
theorem n_Sieve_many (T : TxtSieve K) (h : H p = some (.ins (He.ga K "Sieve") dx (i_Sieve_2 x0 x1))) (q : D.nx σ (upd H p (.ins (He.ga K "Sieve") dx (i_Sieve_3 x0 x1 y)))) : rSFl K "many" (.ref p) y D σ H := by
  refine ⟨p, _, dx, _, rfl, h, T.cl, T.n_many, by show 2 < 1000; decide, ?_⟩
  have e : putF "many" y (i_Sieve_2 x0 x1) = i_Sieve_3 x0 x1 y := by
    unfold i_Sieve_2
    rw [put_tl (by decide +kernel), put_tl (by decide +kernel), put_nil] <;> rfl
  rw [e]
  exact q
end
structure SieveS (K : PySem.W.Frag) (H : Hp) (p : Addr) (kv : V) (pr lo lc : Addr) (ks : List Str) (o : Ord) (cs : List Cell) (many : Int) : Prop where
  ob : SieveOb K H p kv (.ref pr) (.int many)
  kinds : KindsAt H kv ks
  room : RoomS K H pr lo lc o cs
  ne : p ≠ pr
theorem SieveOb.keep {K : PySem.W.Frag} {H H' : Hp} {p : Addr} {x0 x1 x2 : V} (h : SieveOb K H p x0 x1 x2) (k : ∀ o, H p = some o → H' p = some o) : SieveOb K H' p x0 x1 x2 := let ⟨dx, e⟩ := h; ⟨dx, k _ e⟩
section
variable {K : PySem.W.Frag} {H H' : Hp} {p pr lo lc : Addr} {kv : V} {ks : List Str} {o : Ord} {cs cs' : List Cell} {many many' : Int}
theorem SieveS.plc (S : SieveS K H p kv pr lo lc ks o cs many) : p ≠ lc ∧ p ≠ lo := by
  obtain ⟨dx, e⟩ := S.ob
  obtain ⟨vs, e2, _⟩ := S.room.cells
  obtain ⟨os, e3, _⟩ := S.room.ord
  exact ⟨ne_of e e2 (by intro z; cases z), ne_of e e3 (by intro z; cases z)⟩
theorem SieveS.tup (S : SieveS K H p kv pr lo lc ks o cs many) (k : But [p, lc] H H') : TupLe H H' := fun c xs e => by
  obtain ⟨dx, e1⟩ := S.ob
  obtain ⟨vs, e2, _⟩ := S.room.cells
  exact k c _ e (nn (ne_of e e1 (by intro z; cases z)) (ne_of e e2 (by intro z; cases z)))
theorem SieveS.same (S : SieveS K H p kv pr lo lc ks o cs many) (s : Same H H') : SieveS K H' p kv pr lo lc ks o cs many := ⟨S.ob.keep fun u => s p u, S.kinds.mono (TupLe.same s), S.room.same s, S.ne⟩
theorem SieveS.roomed (S : SieveS K H p kv pr lo lc ks o cs many) (k : But [lc] H H') (R : RoomS K H' pr lo lc o cs') : SieveS K H' p kv pr lo lc ks o cs' many :=
  ⟨S.ob.keep fun u e => k _ _ e (ne1 S.plc.1), S.kinds.mono (S.tup (k.wide fun x hx => by rw [List.mem_singleton] at hx; subst hx; simp)), R, S.ne⟩
theorem SieveS.counted {dx : Addr} (S : SieveS K H p kv pr lo lc ks o cs many) : SieveS K (upd H p (.ins (He.ga K "Sieve") dx (f_Sieve kv (.ref pr) (.int many')))) p kv pr lo lc ks o cs many' ∧ But [p] H (upd H p (.ins (He.ga K "Sieve") dx (f_Sieve kv (.ref pr) (.int many')))) := by
  have k : But [p] H (upd H p (.ins (He.ga K "Sieve") dx (f_Sieve kv (.ref pr) (.int many')))) := (But.refl _ H).put (by simp)
  have t := S.tup (k.wide fun x hx => by rw [List.mem_singleton] at hx; subst hx; simp)
  exact ⟨⟨⟨dx, upd_same⟩, S.kinds.mono t, ⟨S.room.ob.keep fun u e => up e S.ne.symm, S.room.ord.keep TurnAt.st t fun u e => up e S.plc.2.symm, S.room.cells.keep CellAt.st t fun u e => up e S.plc.1.symm, S.room.ne⟩, S.ne⟩, k⟩
theorem SieveS.keepBut {S0 : List Addr} (S : SieveS K H p kv pr lo lc ks o cs many) (t : TupLe H H') (k : But S0 H H') (h : ∀ b, b = p ∨ b = pr ∨ b = lo ∨ b = lc → b ∉ S0) : SieveS K H' p kv pr lo lc ks o cs many :=
  ⟨S.ob.keep fun u e => k _ _ e (h _ (.inl rfl)), S.kinds.mono t, ⟨S.room.ob.keep fun u e => k _ _ e (h _ (.inr (.inl rfl))), S.room.ord.keep TurnAt.st t fun u e => k _ _ e (h _ (.inr (.inr (.inl rfl)))), S.room.cells.keep CellAt.st t fun u e => k _ _ e (h _ (.inr (.inr (.inr rfl)))), S.room.ne⟩, S.ne⟩
end
abbrev N_Sieve___init__ : List Str := ["self", "kinds", "order"]
abbrev P_Sieve___init__ : List Str := ["self", "kinds", "order"]
def sp_Sieve___init__ (K : PySem.W.Frag) : Sp := fun vs H Q E => match vs with
  | [s, kv, ov] => ∃ p dx ks o lo, s = .ref p ∧ H p = some (.ins (He.ga K "Sieve") dx []) ∧ KindsAt H kv ks ∧ GoodKinds ks ∧ ov = .ref lo ∧ Lst TurnAt H lo o ∧ GoodOrd ks o ∧ o.length ≤ 1000 ∧
    ∀ pr lo2 lc H', SieveS K H' p kv pr lo2 lc ks o [] 0 → H pr = none → H lo2 = none → H lc = none → But [p] H H' → Q .non H'
  | _ => False
def t_Sieve___init__ (K : PySem.W.Frag) (E : XK) : TS := (tSeq (tDrop (tCall (sp_need_kinds K) [] E (tCons (tVar 1) tNil)))
  (tSeq (tDrop (tCall (sp_need_order K) [] E (tCons (tVar 1) (tCons (tVar 2) tNil))))
   (tSeq (sFl K (tVar 0) (tCB1 (xTuple K) (tVar 1)) "kinds")
    (tSeq (sFl K (tVar 0) (tMake (He.ga K "Room") (sp_Room___init__ K) [] E (tCons (tCB1 (xList K) (tVar 2)) tNil)) "room")
     (sFl K (tVar 0) (tC (.int 0)) "many")))))
theorem pure_Sieve___init__ {K : PySem.W.Frag} (T : TxtSieve K) : ∀ vs H Q E, sp_Sieve___init__ K vs H Q E → t_Sieve___init__ K E { nx := fun _ H' => Q .non H', rt := Q } (start N_Sieve___init__ vs) H := by
  intro vs H Q E h
  match vs, h with
  | [s, kv, ov], h =>
    obtain ⟨p, dx, ks, o, lo, rfl, hp, ⟨kt, rfl, hkt⟩, gk, rfl, Lo, go, hol, k⟩ := h
    refine ⟨_, rfl, ks, ⟨kt, rfl, hkt⟩, gk, fun H1 s1 => ?_⟩
    refine ⟨_, rfl, _, rfl, ks, o, ⟨kt, rfl, s1 _ _ hkt⟩, ⟨lo, rfl, Lo.same TurnAt.st s1⟩, go, hol, fun H2 s2 => ?_⟩
    have s02 := s1.trans s2
    have hp2 := s02 _ _ hp
    refine ⟨_, rfl, kt, _, rfl, .inr ⟨SqT.of (s02 _ _ hkt), _, rfl, n_Sieve_kinds T hp2 ?_⟩⟩
    have npo : lo ≠ p := by
      obtain ⟨tv, e, _⟩ := Lo
      exact ne_of e hp (by intro z; cases z)
    have k3 : But [p] H (upd H2 p (.ins (He.ga K "Sieve") dx (i_Sieve_1 (.ref kt)))) := (But.same s02).put (by simp)
    have hp3 : upd H2 p (.ins (He.ga K "Sieve") dx (i_Sieve_1 (.ref kt))) p = some _ := upd_same
    have t3 : TupLe H (upd H2 p (.ins (He.ga K "Sieve") dx (i_Sieve_1 (.ref kt)))) := k3.tupOf fun b hb => by rw [List.mem_singleton] at hb; subst hb; exact nt_ins hp
    generalize upd H2 p (.ins (He.ga K "Sieve") dx (i_Sieve_1 (.ref kt))) = H3 at k3 hp3 t3 ⊢
    have Lo3 : Lst TurnAt H3 lo o := Lo.keep TurnAt.st t3 fun u e => k3 _ _ e (ne1 npo)
    obtain ⟨ov, eo, po⟩ := Lo3
    refine ⟨_, rfl, lo, _, rfl, .inl (SqL.of eo), fun lo2 hlo2 => ?_⟩
    have s4 : Same H3 (upd H3 lo2 (.lst ov)) := Rs.Same.new hlo2
    have Lo4 : Lst TurnAt (upd H3 lo2 (.lst ov)) lo2 o := ⟨ov, upd_same, Paired.tl TurnAt.st (TupLe.same s4) po⟩
    have npo2 : p ≠ lo2 := ne_of_none hp3 hlo2
    have hlo20 : H lo2 = none := none_of_but k3 hlo2 (ne1 npo2.symm)
    have hp4 := s4 _ _ hp3
    generalize upd H3 lo2 (.lst ov) = H4 at s4 Lo4 hp4 ⊢
    refine fun pr dr hpr hdr ndr => ?_
    have s5 : Same H4 (upd (upd H4 dr (.own pr)) pr (.ins (He.ga K "Room") dr [])) := (Rs.Same.new hdr).trans (Rs.Same.new (by rw [upd_ne ndr.symm]; exact hpr))
    have hpr5 : upd (upd H4 dr (.own pr)) pr (.ins (He.ga K "Room") dr []) pr = some (.ins (He.ga K "Room") dr []) := upd_same
    generalize upd (upd H4 dr (.own pr)) pr (.ins (He.ga K "Room") dr []) = H5 at s5 hpr5 ⊢
    have npr : p ≠ pr := ne_of_none hp4 hpr
    have k04 : But [p] H H4 := k3.trans (But.same s4)
    have hpr0 : H pr = none := none_of_but k04 hpr (ne1 npr.symm)
    refine ⟨pr, dr, lo2, o, rfl, rfl, hpr5, Lo4.same TurnAt.st s5, fun lc H6 R hlc k6 => ⟨rfl, ?_⟩⟩
    have hp6 := k6 _ _ (s5 _ _ hp4) (ne1 npr)
    have plc : p ≠ lc := ne_of_none (s5 _ _ hp4) hlc
    have hlc0 : H lc = none := none_of_but k04 (s5.free hlc) (ne1 plc.symm)
    have s46 : Same H4 H6 := k6.fresh s5 fun x hx => by rw [List.mem_singleton] at hx; rw [hx]; exact hpr
    refine ⟨_, rfl, n_Sieve_room T hp6 ⟨_, rfl, n_Sieve_many T upd_same ?_⟩⟩
    have k7 : ∀ u1 u2 : HO, But [p] H6 (upd (upd H6 p u1) p u2) := fun u1 u2 => ((But.refl _ H6).put (by simp)).put (by simp)
    have t7 : ∀ u1 u2 : HO, TupLe H6 (upd (upd H6 p u1) p u2) := fun u1 u2 => (k7 u1 u2).tupOf fun b hb => by rw [List.mem_singleton] at hb; subst hb; exact nt_ins hp6
    have hk6 : KindsAt H6 (.ref kt) ks := IsTp.mono (TupLe.same s46) (IsTp.mono (TupLe.same s4) (IsTp.mono t3 ⟨kt, rfl, hkt⟩))
    exact k pr lo2 lc _ ⟨⟨dx, upd_same⟩, hk6.mono (t7 _ _), ⟨R.ob.keep fun u e => k7 _ _ _ _ e (ne1 npr.symm), R.ord.keep TurnAt.st (t7 _ _) fun u e => k7 _ _ _ _ e (ne1 npo2.symm), R.cells.keep CellAt.st (t7 _ _) fun u e => k7 _ _ _ _ e (ne1 plc.symm), R.ne⟩, npr⟩ hpr0 hlo20 hlc0 ((k04.trans (But.same s46)).trans (k7 _ _))
end Rs

namespace Rs
open PySem PySem.Spec PyProof.Rows L2
open LamX
abbrev N_law_class : List Str := ["_law_e", "_law_kinds_here", "_law_words"]
abbrev P_law_class : List Str := ["_law_e"]
def t_law_class (K : PySem.W.Frag) (D a : Addr) (d : Option Addr) : TS := (tSeq (tAsg (tLst (tCons (tCB (rIsX K D a d) (tCons (tVar 0) (tConsC (.ref (He.ga K "BadKinds")) tNil))) (tCons (tCB (rIsX K D a d) (tCons (tVar 0) (tConsC (.ref (He.ga K "BadOrder")) tNil))) (tCons (tCB (rIsX K D a d) (tCons (tVar 0) (tConsC (.ref (He.ga K "BadRows")) tNil))) (tCons (tCB (rIsX K D a d) (tCons (tVar 0) (tConsC (.ref (He.ga K "BadRuns")) tNil))) tNil))))) (gName 1))
  (tSeq (tAsg (tOp rCat (tVar 1) (tLst (tCons (tCB (rIsX K D a d) (tCons (tVar 0) (tConsC (.ref (He.ga K "BadRoom")) tNil))) (tCons (tCB (rIsX K D a d) (tCons (tVar 0) (tConsC (.ref (He.ga K "BadLengths")) tNil))) (tCons (tCB (rIsX K D a d) (tCons (tVar 0) (tConsC (.ref (He.ga K "BadPlan")) tNil))) (tCons (tCB (rIsX K D a d) (tCons (tVar 0) (tConsC (.ref (He.ga K "BadPaper")) tNil))) tNil)))))) (gName 1))
   (tSeq (tAsg (tOp rCat (tVar 1) (tLst (tCons (tCB (rIsX K D a d) (tCons (tVar 0) (tConsC (.ref (He.ga K "BadCount")) tNil))) (tCons (tCB (rIsX K D a d) (tCons (tVar 0) (tConsC (.ref (He.ga K "BadBlock")) tNil))) (tCons (tCB (rIsX K D a d) (tCons (tVar 0) (tConsC (.ref (He.ga K "Stopped")) tNil))) (tCons (tCB (rIsX K D a d) (tCons (tVar 0) (tConsC (.ref (He.ga K "Shut")) tNil))) tNil)))))) (gName 1))
    (tSeq (tAsg (tOp rCat (tVar 1) (tLst (tCons (tCB (rIsX K D a d) (tCons (tVar 0) (tConsC (.ref (He.ga K "NotYet")) tNil))) (tCons (tCB (rIsX K D a d) (tCons (tVar 0) (tConsC (.ref (He.ga K "Empty")) tNil))) (tCons (tCB (rIsX K D a d) (tCons (tVar 0) (tConsC (.ref (He.ga K "BadText")) tNil))) tNil))))) (gName 1))
     (tSeq (tAsg (tLst (tConsC (.str "BadKinds") (tConsC (.str "BadOrder") (tConsC (.str "BadRows") (tConsC (.str "BadRuns") (tConsC (.str "BadRoom") (tConsC (.str "BadLengths") (tConsC (.str "BadPlan") (tConsC (.str "BadPaper") (tConsC (.str "BadCount") tNil)))))))))) (gName 2))
      (tSeq (tAsg (tOp rCat (tVar 2) (tLst (tConsC (.str "BadBlock") (tConsC (.str "Stopped") (tConsC (.str "Shut") (tConsC (.str "NotYet") (tConsC (.str "Empty") (tConsC (.str "BadText") tNil)))))))) (gName 2))
       (tRet (tIf (tAnd (tTest (tOpC rEq (tBM K "list" (xCount K) (tVar 1) (tConsC (.bl true) tNil)) (.int 1))) (tB (tCB (rIsX K D a d) (tCons (tVar 0) (tConsC (.ty "ValueError") tNil))))) (tOp (rIxL K) (tVar 2) (tBM K "list" (rIndex K) (tVar 1) (tConsC (.bl true) tNil))) (tC (.str ""))))))))))
theorem DictOk.same {d : Option Addr} {H H' : Hp} (h : DictOk d H) (s : Same H H') : DictOk d H' := fun dd e => let ⟨fs, q⟩ := h dd e; ⟨fs, s _ _ q⟩
def truths (x : Str) : List V := errNames.map fun y => V.bl (decide (x = y))
theorem names_nd : errNames.Nodup := by decide +kernel
theorem truths_flat (x : Str) : (truths x).all flatV = true := by
  unfold truths
  rw [List.all_map]
  exact List.all_eq_true.mpr fun _ _ => rfl
theorem eqV_t (b : Bool) : eqV (.bl b) (.bl true) = b := by cases b <;> rfl
theorem truths_one {x : Str} : ∀ {l : List Str}, x ∈ l → l.Nodup → (l.map fun y => V.bl (decide (x = y))).countP (fun z => eqV z (.bl true)) = 1
  | y :: l, h, nd => by
    rw [List.nodup_cons] at nd
    rw [List.map_cons, List.countP_cons, eqV_t]
    by_cases e : x = y
    · have z : (l.map fun y => V.bl (decide (x = y))).countP (fun z => eqV z (.bl true)) = 0 := by
        rw [List.countP_eq_zero]
        intro v hv
        obtain ⟨u, hu, rfl⟩ := List.mem_map.mp hv
        rw [eqV_t, decide_eq_true_eq]
        intro q
        exact nd.1 (by rw [← e, q]; exact hu)
      rw [z, decide_eq_true e]
      rfl
    · rw [truths_one ((List.mem_cons.mp h).resolve_left e) nd.2, decide_eq_false e]
      rfl
theorem does_law_class {K : PySem.W.Frag} {x : Str} {a : Addr} {d : Option Addr} {H : Hp} {Q : VK} (E : ErrIs K x) (dk : DictOk d H) (k : ∀ H', Same H H' → Q (.str x) H') : t_law_class K (He.ga K x) a d { nx := fun _ H' => Q .non H', rt := Q } (start N_law_class [.ref a]) H := by
  refine ⟨_, rfl, _, .ref (He.ga K "BadKinds"), _, rfl, fun _ h => h, E.k _ (by decide +kernel), dk, _, rfl, _, .ref (He.ga K "BadOrder"), _, rfl, fun _ h => h, E.k _ (by decide +kernel), dk, _, rfl, _, .ref (He.ga K "BadRows"), _, rfl, fun _ h => h, E.k _ (by decide +kernel), dk, _, rfl, _, .ref (He.ga K "BadRuns"), _, rfl, fun _ h => h, E.k _ (by decide +kernel), dk, szle (by show 4 ≤ 100000; decide), fun l1 h1 => ?_⟩
  generalize gX : upd _ l1 _ = H1
  have s1 := newS h1 gX
  have e1 := newE gX
  clear gX
  have s01 : Same H H1 := s1
  refine ⟨_, rfl, _, rfl, _, .ref (He.ga K "BadRoom"), _, rfl, fun _ h => h, E.k _ (by decide +kernel), (dk.same s01), _, rfl, _, .ref (He.ga K "BadLengths"), _, rfl, fun _ h => h, E.k _ (by decide +kernel), (dk.same s01), _, rfl, _, .ref (He.ga K "BadPlan"), _, rfl, fun _ h => h, E.k _ (by decide +kernel), (dk.same s01), _, rfl, _, .ref (He.ga K "BadPaper"), _, rfl, fun _ h => h, E.k _ (by decide +kernel), (dk.same s01), szle (by show 4 ≤ 100000; decide), fun l2 h2 => ?_⟩
  generalize gX : upd _ l2 _ = H2
  have s2 := newS h2 gX
  have e2 := newE gX
  clear gX
  refine ⟨l1, l2, [V.bl (decide (x = "BadKinds")), V.bl (decide (x = "BadOrder")), V.bl (decide (x = "BadRows")), V.bl (decide (x = "BadRuns"))], [V.bl (decide (x = "BadRoom")), V.bl (decide (x = "BadLengths")), V.bl (decide (x = "BadPlan")), V.bl (decide (x = "BadPaper"))], rfl, rfl, s2 _ _ e1, e2, szle (by show 4 + 4 ≤ 100000; decide), fun l3 h3 => ?_⟩
  generalize gX : upd _ l3 _ = H3
  have s3 := newS h3 gX
  have e3 := newE gX
  clear gX
  have s03 : Same H H3 := (s01.trans s2).trans s3
  refine ⟨_, rfl, _, rfl, _, .ref (He.ga K "BadCount"), _, rfl, fun _ h => h, E.k _ (by decide +kernel), (dk.same s03), _, rfl, _, .ref (He.ga K "BadBlock"), _, rfl, fun _ h => h, E.k _ (by decide +kernel), (dk.same s03), _, rfl, _, .ref (He.ga K "Stopped"), _, rfl, fun _ h => h, E.k _ (by decide +kernel), (dk.same s03), _, rfl, _, .ref (He.ga K "Shut"), _, rfl, fun _ h => h, E.k _ (by decide +kernel), (dk.same s03), szle (by show 4 ≤ 100000; decide), fun l4 h4 => ?_⟩
  generalize gX : upd _ l4 _ = H4
  have s4 := newS h4 gX
  have e4 := newE gX
  clear gX
  refine ⟨l3, l4, [V.bl (decide (x = "BadKinds")), V.bl (decide (x = "BadOrder")), V.bl (decide (x = "BadRows")), V.bl (decide (x = "BadRuns")), V.bl (decide (x = "BadRoom")), V.bl (decide (x = "BadLengths")), V.bl (decide (x = "BadPlan")), V.bl (decide (x = "BadPaper"))], [V.bl (decide (x = "BadCount")), V.bl (decide (x = "BadBlock")), V.bl (decide (x = "Stopped")), V.bl (decide (x = "Shut"))], rfl, rfl, s4 _ _ e3, e4, szle (by show 8 + 4 ≤ 100000; decide), fun l5 h5 => ?_⟩
  generalize gX : upd _ l5 _ = H5
  have s5 := newS h5 gX
  have e5 := newE gX
  clear gX
  have s05 : Same H H5 := (s03.trans s4).trans s5
  refine ⟨_, rfl, _, rfl, _, .ref (He.ga K "NotYet"), _, rfl, fun _ h => h, E.k _ (by decide +kernel), (dk.same s05), _, rfl, _, .ref (He.ga K "Empty"), _, rfl, fun _ h => h, E.k _ (by decide +kernel), (dk.same s05), _, rfl, _, .ref (He.ga K "BadText"), _, rfl, fun _ h => h, E.k _ (by decide +kernel), (dk.same s05), szle (by show 3 ≤ 100000; decide), fun l6 h6 => ?_⟩
  generalize gX : upd _ l6 _ = H6
  have s6 := newS h6 gX
  have e6 := newE gX
  clear gX
  refine ⟨l5, l6, [V.bl (decide (x = "BadKinds")), V.bl (decide (x = "BadOrder")), V.bl (decide (x = "BadRows")), V.bl (decide (x = "BadRuns")), V.bl (decide (x = "BadRoom")), V.bl (decide (x = "BadLengths")), V.bl (decide (x = "BadPlan")), V.bl (decide (x = "BadPaper")), V.bl (decide (x = "BadCount")), V.bl (decide (x = "BadBlock")), V.bl (decide (x = "Stopped")), V.bl (decide (x = "Shut"))], [V.bl (decide (x = "NotYet")), V.bl (decide (x = "Empty")), V.bl (decide (x = "BadText"))], rfl, rfl, s6 _ _ e5, e6, szle (by show 12 + 3 ≤ 100000; decide), fun l7 h7 => ?_⟩
  generalize gX : upd _ l7 _ = H7
  have s7 := newS h7 gX
  have e7 := newE gX
  clear gX
  have s07 : Same H H7 := (s05.trans s6).trans s7
  refine ⟨szle (by show 9 ≤ 100000; decide), fun w1 g1 => ?_⟩
  generalize gX : upd _ w1 _ = G1
  have t1 := newS g1 gX
  have f1 := newE gX
  clear gX
  refine ⟨_, rfl, szle (by show 6 ≤ 100000; decide), fun w2 g2 => ?_⟩
  generalize gX : upd _ w2 _ = G2
  have t2 := newS g2 gX
  have f2 := newE gX
  clear gX
  refine ⟨w1, w2, _, _, rfl, rfl, t2 _ _ f1, f2, szle (by show 9 + 6 ≤ 100000; decide), fun w3 g3 => ?_⟩
  generalize gX : upd _ w3 _ = G3
  have t3 := newS g3 gX
  have f3 := newE gX
  clear gX
  have t0 : Same H7 G3 := (t1.trans t2).trans t3
  have eK : G3 l7 = some (.lst (truths x)) := t0 _ _ e7
  have eW : G3 w3 = some (.lst (errNames.map V.str)) := f3
  have sK : Same H G3 := s07.trans t0
  refine ⟨_, rfl, .inl ⟨rfl, _, SqL.of eK⟩, l7, truths x, .bl true, rfl, rfl, SqL.of eK, rfl, truths_flat x, rfl, _, rfl, ?_⟩
  rw [show (truths x).countP (fun z => eqV z (.bl true)) = 1 from truths_one E.mem names_nd]
  refine ⟨_, rfl, _, .type "ValueError", _, rfl, fun _ h => h, E.v, dk.same sK, ?_⟩
  obtain ⟨j, hj, ej⟩ := List.getElem_of_mem E.mem
  have hj2 : errNames[j]? = some x := by rw [List.getElem?_eq_getElem hj, ej]
  refine ⟨_, rfl, _, rfl, _, rfl, .inl ⟨rfl, _, SqL.of eK⟩, l7, truths x, .bl true, j, .bl true, rfl, rfl, SqL.of eK, rfl, truths_flat x, ?_, rfl, fun m z hm hz => ?_, ixL eW rfl (by rw [List.getElem?_map, hj2]; rfl) (k _ sK)⟩
  · unfold truths
    rw [List.getElem?_map, hj2]
    show some (V.bl (decide (x = x))) = _
    rw [decide_eq_true rfl]
  · unfold truths at hz
    rw [List.getElem?_map] at hz
    cases q : errNames[m]? with
    | none => rw [q] at hz; cases hz
    | some y =>
      rw [q] at hz
      cases hz
      rw [eqV_t]
      refine decide_eq_false fun z => ?_
      subst z
      have := (List.getElem?_inj (List.getElem?_eq_some_iff.mp q).1 names_nd).mp (q.trans hj2.symm)
      omega
abbrev N_law_told : List Str := ["_law_work", "_law_e", "_law_word"]
abbrev P_law_told : List Str := ["_law_work"]
def t_law_told (K : PySem.W.Frag) (a : Addr) (cls : Value) (d : Option Addr) : TS := (tSeq (tAsg (tWarm K 1 a cls d N_law_class (t_law_class K)) (gName 2))
  (tSeq (tIfS (tTest (tOpC rEq (tVar 2) (.str "BadRuns"))) (tRet (tTup (tCons (tVar 2) (tCons (tErrF K 1 a cls d "number") tNil)))) tNext)
   (tRet (tTup (tCons (tVar 2) (tCons (tIf (tTest (tOp (rIn K false) (tVar 2) (tTup (tConsC (.str "BadRows") (tConsC (.str "BadText") tNil))))) (tErrF K 1 a cls d "place") (tC (.int 0))) tNil))))))
theorem set1 {σ : L2.St} {v : Option V} (h : σ.length = 3) : ∃ x0 x2, σ.set 1 v = [x0, v, x2] := by
  match σ, h with
  | [x0, _, x2], _ => exact ⟨x0, x2, rfl⟩
theorem ErrNo.ok {K : PySem.W.Frag} {x : Str} {d : Option Addr} {H : Hp} {v : V} (h : ErrNo K x d H v) : DictOk d H := by
  unfold ErrNo at h
  intro dd e
  split at h
  · obtain ⟨d2, fs, _, _, e2, q, _⟩ := h
    rw [e2] at e
    cases e
    exact ⟨fs, q⟩
  · rw [h.1] at e
    cases e
theorem ErrNo.same {K : PySem.W.Frag} {x : Str} {d : Option Addr} {H H' : Hp} {v : V} (h : ErrNo K x d H v) (s : Same H H') : ErrNo K x d H' v := by
  unfold ErrNo at h ⊢
  split at h
  · rename_i c
    rw [if_pos c]
    obtain ⟨dd, fs, a, b, e, q, l⟩ := h
    exact ⟨dd, fs, a, b, e, s _ _ q, l⟩
  · rename_i c
    rw [if_neg c]
    exact h
theorem two_words {x : Str} : inV (.str x) [.str "BadRows", .str "BadText"] = decide (x = "BadRows" ∨ x = "BadText") := by
  unfold inV
  rw [List.any_cons, List.any_cons, List.any_nil, Bool.or_false]
  show (("BadRows" : Str) == x || ("BadText" : Str) == x) = _
  by_cases c : x = "BadRows"
  · subst c
    simp
  · by_cases c2 : x = "BadText"
    · subst c2
      simp
    · simp [c, c2, Ne.symm c, Ne.symm c2, beq_eq_false_iff_ne.mpr (Ne.symm c), beq_eq_false_iff_ne.mpr (Ne.symm c2)]
theorem pure_law_told {K : PySem.W.Frag} : ∀ (a : Addr) (cls : Value) (d : Option Addr) (H : Hp) (Q : VK) (D : Ends) (σ : L2.St), rErr K cls d H Q → D.rt = Q → σ.length = N_law_told.length → t_law_told K a cls d D (σ.set 1 (some (.ref a))) H := by
  intro a cls d H Q D σ h eD hl
  obtain ⟨x, v, rfl, E, no, k⟩ := h
  obtain ⟨x0, x2, eσ⟩ := set1 (v := some (.ref a)) hl
  rw [eσ]
  refine ⟨rfl, He.ga K x, rfl, E.c, does_law_class E no.ok fun H1 s1 => ?_⟩
  have no1 := no.same s1
  refine ⟨_, rfl, rfl, _, rfl, ?_⟩
  unfold ErrNo at no1
  by_cases c1 : x = "BadRuns"
  · rw [if_pos (.inl c1), if_pos c1] at no1
    obtain ⟨dd, fs, hx, hn, ed, eH, l⟩ := no1
    rw [decide_eq_true (show V.str x = V.str "BadRuns" by rw [c1])]
    refine ⟨_, rfl, rfl, _, dd, fs, v, rfl, hx, hn, ed, eH, l, szle (by show 2 ≤ 100000; decide), fun q hq => ?_⟩
    generalize gX : upd _ q _ = H2
    have s2 := newS hq gX
    have e2 := newE gX
    clear gX
    rw [eD]
    exact k q H2 (s1.free hq) (s1.trans s2) e2
  rw [decide_eq_false (show ¬ V.str x = V.str "BadRuns" from fun z => c1 (V.str.inj z))]
  refine ⟨_, rfl, _, rfl, szle (by show 2 ≤ 100000; decide), fun q hq => ?_⟩
  have q0 := s1.free hq
  generalize gX : upd _ q _ = H2
  have s2 := newS hq gX
  have e2 := newE gX
  clear gX
  refine ⟨q, _, rfl, .inr (SqT.of e2), rfl, rfl, _, rfl, ?_⟩
  rw [if_neg (by decide), two_words]
  by_cases c2 : x = "BadRows" ∨ x = "BadText"
  · rw [if_pos (.inr c2), if_neg c1] at no1
    obtain ⟨dd, fs, hx, hn, ed, eH, l⟩ := no1
    rw [decide_eq_true c2]
    refine ⟨rfl, _, dd, fs, v, rfl, hx, hn, ed, s2 _ _ eH, l, szle (by show 2 ≤ 100000; decide), fun r hr => ?_⟩
    have r0 := (s1.trans s2).free hr
    generalize gX : upd _ r _ = H3
    have s3 := newS hr gX
    have e3 := newE gX
    clear gX
    rw [eD]
    exact k r H3 r0 ((s1.trans s2).trans s3) e3
  · rw [if_neg (fun z => z.elim c1 c2)] at no1
    obtain ⟨_, rfl⟩ := no1
    rw [decide_eq_false c2]
    refine ⟨szle (by show 2 ≤ 100000; decide), fun r hr => ?_⟩
    have r0 := (s1.trans s2).free hr
    generalize gX : upd _ r _ = H3
    have s3 := newS hr gX
    have e3 := newE gX
    clear gX
    rw [eD]
    exact k r H3 r0 ((s1.trans s2).trans s3) e3
end Rs

namespace Rs
open PySem PySem.Spec PyProof.Rows L2
open LamX
def ButN (F : List Addr) (H H' : Hp) : Prop := ∀ x u, H x = some u → (∀ ps, u ≠ .tbl ps) → x ∉ F → H' x = some u
theorem ButN.of {F : List Addr} {H H' : Hp} (k : But F H H') : ButN F H H' := fun x u e _ n => k x u e n
theorem ButN.ext {F : List Addr} {H H' : Hp} (k : ExtN H H') : ButN F H H' := fun x u e n _ => k x u e n
theorem ButN.trans {F : List Addr} {H H1 H2 : Hp} (a : ButN F H H1) (b : ButN F H1 H2) : ButN F H H2 := fun x u e n m => b x u (a x u e n m) n m
theorem ButN.wide {F F' : List Addr} {H H' : Hp} (k : ButN F H H') (s : ∀ x ∈ F, x ∈ F') : ButN F' H H' := fun x u e n m => k x u e n fun z => m (s x z)
def Free (F : List Addr) (H : Hp) : Prop := ∀ x ∈ F, ∀ u, H x = some u → (∀ ps, u ≠ .tbl ps) ∧ ∀ c q, u ≠ CodeO c q
theorem tabs_but {T : List (Addr × Str)} {F : List Addr} {H H' : Hp} (t : Tabs T H) (k : But F H H') (f : Free F H) : Tabs T H' := fun p hp => by
  obtain ⟨ps, h1, h2, h3⟩ := t p hp
  refine ⟨ps, k _ _ h1 fun z => (f _ z _ h1).1 ps rfl, h2, fun pos cv hc => ?_⟩
  obtain ⟨c, e1, e2⟩ := h3 pos cv hc
  exact ⟨c, e1, k _ _ e2 fun z => (f _ z _ e2).2 _ _ rfl⟩
theorem tabs_same {T : List (Addr × Str)} {H H' : Hp} (t : Tabs T H) (s : Same H H') : Tabs T H' := t.ext s
theorem free_lst {vs : List V} : (∀ ps, HO.lst vs ≠ .tbl ps) ∧ ∀ c q, HO.lst vs ≠ CodeO c q := ⟨fun _ z => (by cases z), fun _ _ z => (by unfold CodeO at z; cases z)⟩
section
variable {K : PySem.W.Frag} {H H' : Hp} {p q a bl : Addr} {F G : List Addr}
theorem Box.free (h : Box H a bl) : Free [a, bl] H := fun x hx u e => by
  obtain ⟨ns, st, e1, e2, _⟩ := h.ex
  simp only [List.mem_cons, List.not_mem_nil, or_false] at hx
  rcases hx with rfl | rfl
  · rw [e1] at e; cases e; exact free_lst
  · rw [e2] at e; cases e; exact free_lst
theorem ButN.tup (k : ButN F H H') (n : ∀ x ∈ F, ∀ vs, H x ≠ some (.tup vs)) : TupLe H H' := fun c xs e => k c _ e (fun _ z => by cases z) fun z => n c z xs e
theorem Box.keepN {Z : List Addr} (h : Box H a bl) (k : ButN Z H H') (n : ∀ x ∈ [a, bl], x ∉ Z) : Box H' a bl := h.keep (fun o e => k a o e (h.free a (by simp) o e).1 (n a (by simp))) fun o e => k bl o e (h.free bl (by simp) o e).1 (n bl (by simp))
end
theorem extN_tup {H H' : Hp} (k : ExtN H H') : TupLe H H' := fun c xs e => k c _ e fun _ z => by cases z
theorem rErr_plain {K : PySem.W.Frag} {x : Str} {H : Hp} {Q : VK} (E : ErrIs K x) (hx : ¬ (x = "BadRuns" ∨ x = "BadRows" ∨ x = "BadText")) (k : ∀ u H', H u = none → Same H H' → H' u = some (.tup [.str x, .int 0]) → Q (.ref u) H') : rErr K (.ref (He.ga K x)) none H Q :=
  ⟨x, .int 0, rfl, E, by unfold ErrNo; rw [if_neg hx]; exact ⟨rfl, rfl⟩, fun u H' hu s e => k u H' hu (fun b o q => s b o q) e⟩
end Rs

namespace Rs
open PySem PySem.Spec PyProof.Rows L2
open LamX
abbrev N_law_all : List Str := ["_law_works", "_law_due", "_law_work"]
abbrev P_law_all : List Str := ["_law_works", "_law_due"]
def t_law_all (K : PySem.W.Frag) (LS : List LamF) (tt : Nat → XK → Hp → VK → Prop) : TS := (tRet (tOp (xEqE K) (tLc (iList K (tVar 0)) (gName 2) (tNot (tB (tCall (sp_law_alike K) [] E0 (tCons (tToldV K LS tt 2) (tCons (tVar 1) tNil))))) (tVar 2) [2]) (tLst tNil)))
theorem all_good {K : PySem.W.Frag} {LS : List LamF} {tt : Nat → XK → Hp → VK → Prop} {p : Addr} {dv : V} {fs : List Addr} {H : Hp} {Q : VK} (I : Addr → Nat → Hp → Prop) (i0 : ∀ D, H D = none → I D 0 (upd H D (.lst [])))
    (sq0 : SqL K H p (fs.map V.ref)) (sq : ∀ D j H', I D j H' → SqL K H' p (fs.map V.ref)) (dd : ∀ D H', I D fs.length H' → H' D = some (.lst []))
    (step : ∀ D j f H', fs[j]? = some f → I D j H' → ∃ n, LamN LS n f H' ∧ ∀ Qn : VK, (∀ v H'', (∀ Q E, Q (.bl true) H'' → sp_law_alike K [v, dv] H'' Q E) → I D (j + 1) H'' → Qn v H'') → tt n (fun cls d H'' => rErr K cls d H'' Qn) H' Qn)
    (fin : ∀ D e H', I D fs.length H' → H' e = none → Q (.bl true) (upd H' e (.lst []))) : (t_law_all K LS tt) { nx := fun _ H' => Q .non H', rt := Q } (start N_law_all [.ref p, dv]) H := by
  refine ⟨_, rfl, p, rfl, ⟨_, sq0⟩, fun D hD => ?_⟩
  refine lc_list (K := K) (a := p) (xs := fs.map V.ref) (fun j H' => I D j H') (i0 D hD) (fun j H' _ h => sq D j H' h) ?_ ?_
  · intro j v H' hj hI
    rw [List.getElem?_map] at hj
    cases hf : fs[j]? with
    | none =>
      rw [hf] at hj
      cases hj
    | some f =>
      rw [hf] at hj
      cases hj
      obtain ⟨n, hL, ht⟩ := step D j f H' hf hI
      refine ⟨rfl, f, n, rfl, hL, ht _ fun v H'' al hi => ⟨dv, rfl, ?_⟩⟩
      dsimp only [tNil, List.append_nil]
      exact al _ _ ⟨true, rfl, hi⟩
  · intro H' hI
    rw [List.length_map] at hI
    exact ⟨sz0, fun e he => eqE (dd D H' hI) he (b := true) rfl (fin D e H' hI he)⟩
end Rs

namespace Rs
open PySem PySem.Spec PyProof.Rows L2
open LamX
theorem extS {H H' : Hp} (s : Same H H') : ExtN H H' := fun b o e _ => s b o e
theorem Lst.extN {α : Type} {R : Rel α} (st : Stable R) {H H' : Hp} {x : Addr} {xs : List α} (e : ExtN H H') (L : Lst R H x xs) : Lst R H' x xs := let ⟨vs, a, b⟩ := L; ⟨vs, e _ _ a fun _ z => (by cases z), Paired.tl st (extN_tup e) b⟩
theorem Box.extN {H H' : Hp} {a l : Addr} (B : Box H a l) (e : ExtN H H') : Box H' a l := B.keepN (ButN.ext (F := []) e) fun _ _ z => nomatch z
theorem rErr_place2 {K : PySem.W.Frag} {x : Str} {H : Hp} {Q : VK} {dd : Addr} {v : V} (E : ErrIs K x) (M : ErrMk K x "place") (hx : x = "BadRows" ∨ x = "BadText") (hr : ¬ x = "BadRuns") (e : H dd = some (.xd [(("place" : Str), v)])) (k : ∀ u H', H u = none → Same H H' → H' u = some (.tup [.str x, v]) → Q (.ref u) H') : rErr K (.ref (He.ga K x)) (some dd) H Q := by
  refine ⟨x, v, rfl, E, ?_, fun u H' hu s e => k u H' hu (fun b o q => s b o q) e⟩
  unfold ErrNo
  rw [if_pos (.inr hx), if_neg hr]
  exact ⟨dd, _, ⟨E.c.hg, E.c.hk, E.c.hs, E.c.hd⟩, M.noF, rfl, e, by simp [List.lookup]⟩
theorem told_errs {K : PySem.W.Frag} {LS : List LamF} {l : List (Nat × (XK → TE))} {σ : L2.St} {fs : List Addr} {p u : Addr} {x : Str} {n : Int} {H : Hp} {Q : VK} (ep : H p = some (.lst (fs.map V.ref))) (eu : H u = some (.tup [.str x, .int n]))
    (bodies : ∀ f ∈ fs, ∃ j t, l.lookup j = some t ∧ LamN LS j f H ∧ ∀ H' (Qn : VK), Same H H' → (∀ u' H1, Same H' H1 → H1 u' = some (.tup [.str x, .int n]) → Qn (.ref u') H1) → t (fun cls d H'' => rErr K cls d H'' Qn) σ H' Qn)
    (fin : ∀ H', Same H H' → Q (.bl true) H') : (t_law_all K LS (fun j E => lamT l j E σ)) { nx := fun _ H' => Q .non H', rt := Q } (start N_law_all [.ref p, .ref u]) H := by
  refine all_good (fs := fs) (fun D j H' => H' D = some (.lst []) ∧ Same H H') (fun D hD => ⟨upd_same, Rs.Same.new hD⟩) (SqL.of ep) (fun D j H' h => SqL.of (h.2 _ _ ep)) (fun D H' h => h.1) ?_ (fun D e H' h he => fin _ (h.2.trans (Rs.Same.new he)))
  rintro D i g H' hi ⟨hd, s⟩
  obtain ⟨j, t, hl, hf, body⟩ := bodies g (List.mem_of_getElem? hi)
  refine ⟨j, hf.ext fun b φ e => s _ _ e, fun Qn hQ => ⟨t, hl, body H' Qn s fun u' H2 s2 e => ?_⟩⟩
  have s02 := s.trans s2
  refine hQ _ _ (fun Q E q => ⟨.tuple [.str x, .int n], ?_, .tup (SqT.of e) (.cons (.str _) (.cons (.int _) .nil)), .tup (SqT.of (s02 _ _ eu)) (.cons (.str _) (.cons (.int _) .nil)), q⟩) ⟨s2 _ _ hd, s02⟩
  refine Rs.okA.to (n := 2) ⟨by show 2 ≤ 100000; decide, fun d hd => ?_⟩ (by decide)
  simp only [List.mem_cons, List.not_mem_nil, or_false] at hd
  rcases hd with rfl | rfl <;> exact trivial
theorem one_err {K : PySem.W.Frag} {T : List (Addr × Str)} {LS : List LamF} {l : List (Nat × (XK → TE))} {j : Nat} {t : XK → TE} {σ : L2.St} {ta : TA} {x : Str} {n : Int} {H : Hp} {Q : VK} (TT : Tabs T H) (hl : l.lookup j = some t)
    (hta : ∀ (H1 : Hp) (R : List V → Hp → Prop), R [.int n] H1 → ta σ H1 R)
    (body : ∀ H' (Qn : VK), ExtN H H' → (∀ u' H1, Same H' H1 → H1 u' = some (.tup [.str x, .int n]) → Qn (.ref u') H1) → t (fun cls d H'' => rErr K cls d H'' Qn) σ H' Qn)
    (fin : ∀ H', ExtN H H' → Tabs T H' → Q (.bl true) H') :
    (tAllC LS l (t_law_all K) N_law_all (tCons (tLst (tCons (tLamM T LS j) tNil)) (tCons (tTup (tConsC (.str x) ta)) tNil))) σ H Q := by
  refine ⟨TT, fun f H1 e1 T1 hf LN => ⟨szle (by show 1 ≤ 100000; decide), fun p hp => hta _ _ ?_⟩⟩
  refine ⟨szle (by show 2 ≤ 100000; decide), fun u hu => ⟨rfl, ?_⟩⟩
  have s1 : Same H1 (upd H1 p (.lst [.ref f])) := Rs.Same.new hp
  have ep : upd H1 p (.lst [.ref f]) p = some (.lst [.ref f]) := upd_same
  have LN1 := LN.ext fun b φ e => s1 b _ e
  generalize upd H1 p (.lst [.ref f]) = H2 at s1 ep LN1 hu ⊢
  have s2 : Same H2 (upd H2 u (.tup [.str x, .int n])) := Rs.Same.new hu
  have eu : upd H2 u (.tup [.str x, .int n]) u = some (.tup [.str x, .int n]) := upd_same
  have LN2 := LN1.ext fun b φ e => s2 b _ e
  have ep2 := s2 _ _ ep
  generalize upd H2 u (.tup [.str x, .int n]) = H3 at s2 eu LN2 ep2 ⊢
  have s13 := s1.trans s2
  refine told_errs (fs := [f]) ep2 eu (fun g hg => ⟨j, t, hl, by rw [List.mem_singleton.mp hg]; exact LN2, fun H' Qn s bad => body H' Qn ((e1.trans (extS s13)).trans (extS s)) bad⟩) fun H' s => fin H' ((e1.trans (extS s13)).trans (extS s)) (tabs_same T1 (s13.trans s))
theorem newRow {K : PySem.W.Frag} {σ : L2.St} {H : Hp} {Q : VK} {E : XK} {i j : Nat} {a l kt : Addr} {ks : List Str} (h0 : σ[0]? = some (some (.ref a))) (hi : σ[i]? = some (some (.ref kt))) (hj : 0 < j) (hl : j < σ.length) (B : Box H a l) (hkt : H kt = some (.tup (ks.map V.str))) (gk : GoodKinds ks)
    (k : ∀ D r H', H D = none → H' D = some (.lst (r.map kV)) → isRow ks r = true → Box H' a l → But [a, l] H H' → Q (.ref D) H') :
    (tLc (iTup K (tVar i)) (gName j) tYes (tCall (sp_law_value K) [] E (tCons (tVar 0) (tCons (tVar j) tNil))) [j]) σ H Q := by
  have g4 := gk.le
  obtain ⟨_, _, ha, hl', _⟩ := B.ex
  have kt' : ∀ {H'' : Hp}, But [a, l] H H'' → H'' kt = some (.tup (ks.map V.str)) := fun kk => kk _ _ hkt (nn (ne_of hkt ha (by intro z; cases z)) (ne_of hkt hl' (by intro z; cases z)))
  refine ⟨_, hi, kt, rfl, ⟨_, SqT.of hkt⟩, fun D hD => ?_⟩
  have Da := (ne_of_none ha hD).symm
  have Dl := (ne_of_none hl' hD).symm
  refine lc_tup (K := K) (a := kt) (xs := ks.map V.str) (fun m H2 => ∃ r : Row, H2 D = some (.lst (r.map kV)) ∧ r.length = m ∧ (∀ c, c < m → isValue (ks.getD c "") (kcol r c) = true) ∧ Box H2 a l ∧ But [a, l] H H2)
    ⟨[], upd_same, rfl, fun c h => absurd h (Nat.not_lt_zero _), B.same (Rs.Same.new hD), But.same (Rs.Same.new hD)⟩ ?_ ?_ ?_
  · rintro m H2 _ ⟨r, _, _, _, _, k2⟩
    exact SqT.of (kt' k2)
  · rintro m v H2 hm ⟨r, hd, hrl, hrv, B2, k2⟩
    rw [List.getElem?_map] at hm
    obtain ⟨kd, hkd, rfl⟩ := Option.map_eq_some_iff.mp hm
    have hml := (List.getElem?_eq_some_iff.mp hkd).1
    have w1 : wipe σ [j] = σ.set j none := rfl
    have w2 : ∀ kd : Str, wipe ((σ.set j none).set j (some (V.str kd))) [j] = σ.set j none := fun kd => by
      show (((σ.set j none).set j (some (V.str kd))).set j none) = σ.set j none
      rw [List.set_set, List.set_set]
    rw [w1]
    refine ⟨w2 kd, lc_yes ⟨_, by rw [List.getElem?_set_ne (by omega), List.getElem?_set_ne (by omega)]; exact h0, _, List.getElem?_set_self (by rw [List.length_set]; exact hl), a, l, kd, rfl, rfl, gk.all kd (List.mem_of_getElem? hkd), B2, fun x H3 hx B3 k3 => ?_⟩⟩
    have hd3 := k3 _ _ hd (nn Da Dl)
    refine ⟨_, hd3, szlt (by rw [List.length_map]; omega), r ++ [x], by rw [upd_same, List.map_append] <;> rfl, by simp [hrl], fun c hc => ?_, B3.keep (fun o e => up e Da.symm) (fun o e => up e Dl.symm), (k2.trans k3).mut hD⟩
    rw [kcol_append]
    by_cases e : c < r.length
    · rw [if_pos e]
      exact hrv c (by omega)
    · rw [if_neg e, if_pos (by omega)]
      have : c = m := by omega
      subst this
      rw [List.getD_eq_getElem?_getD, hkd]
      exact hx
  · rintro H2 ⟨r, hd, hrl, hrv, B2, k2⟩
    rw [List.length_map] at hrl hrv
    exact k D r H2 hD hd (isRow_of hrl hrv) B2 k2
end Rs

namespace Rs
open PySem PySem.Spec PyProof.Rows L2
open LamX
abbrev N_need_rowsX : List Str := ["kinds", "rows", "most", "place", "row"]
abbrev P_need_rowsX : List Str := ["kinds", "rows", "most"]
def BadPl (ks : List Str) (rows : List Row) (most : Int) (n : Nat) : Prop := n < rows.length ∧ (most ≤ (n : Int) ∨ isRow ks (rows.getD n []) = false) ∧ ∀ i : Nat, i < n → (i : Int) < most ∧ isRow ks (rows.getD i []) = true
def sp_need_rowsX (K : PySem.W.Frag) : Sp := fun vs H Q E => match vs with
  | [kv, rv, m] => ∃ (ks : List Str) (rows : List Row) (most : Int), KindsAt H kv ks ∧ LstV RowAt H rv rows ∧ m = .int most ∧ 0 ≤ most ∧ ks.length ≤ 1000 ∧ (∀ r ∈ rows, RowSz r) ∧
    (∀ n d H1, BadPl ks rows most n → H1 d = none → Same H H1 → E (.ref (He.ga K "BadRows")) (some d) (upd H1 d (.xd [(("place" : Str), .int ((n : Nat) : Int))]))) ∧
    ((∀ r ∈ rows, isRow ks r = true) → (rows.length : Int) ≤ most → ∀ H', Same H H' → Q .non H')
  | _ => False
def t_need_rowsX (K : PySem.W.Frag) (E : XK) : TS := (tFor (iEnum K (tCons (tVar 1) tNil)) (gTup K 2 (gCons (gName 3) (gCons (gName 4) gNil))) 
    (tIfS (tOr (tTest (tOp xGe (tVar 3) (tVar 2))) (tNot (tB (tCall (sp_is_row K) [] E (tCons (tVar 0) (tCons (tVar 4) tNil)))))) (tRaiseX K "BadRows" "place" E (tCons (tVar 3) tNil)) tNext))
theorem pure_need_rowsX {K : PySem.W.Frag} : ∀ vs H Q E, sp_need_rowsX K vs H Q E → t_need_rowsX K E { nx := fun _ H' => Q .non H', rt := Q } (start N_need_rowsX vs) H := by
  intro vs H Q E h
  match vs, h with
  | [kv, rv, m], h =>
    obtain ⟨ks, rows, most, hk, ⟨lr, rfl, rv, hr, hrows⟩, rfl, m0, hk4, hsz, bad, k⟩ := h
    have hl := hrows.length
    refine ⟨_, rfl, _, _, rfl, SqL.of hr, ?_⟩
    refine for_it (walk_enum (K := K) (a := lr) (xs := rv)) (fun i σ H' => ∃ x3 x4, σ = [some kv, some (.ref lr), some (.int most), x3, x4] ∧ Same H H' ∧ ∀ j : Nat, j < i → (j : Int) < most ∧ isRow ks (rows.getD j []) = true) ⟨none, none, rfl, Same.refl H, fun j hj => (Nat.not_lt_zero _ hj).elim⟩ ?_ ?_ ?_
    · rintro i σ H' _ ⟨_, _, _, s, _⟩
      exact SqL.of (s _ _ hr)
    · rintro i x σ H' H2 hi ⟨x3, x4, rfl, s, pre⟩ ⟨T, x1, w, rfl, hT, rfl, hx1, hw⟩
      cases hx1
      obtain ⟨r, hr', hra⟩ := P2.get hrows hw
      have rD : rows.getD i [] = r := by rw [List.getD_eq_getElem?_getD, hr']; rfl
      have hil := (List.getElem?_eq_some_iff.mp hr').1
      have s2 := s.trans (Rs.Same.new (o := .tup [.int (i : Nat), w]) hT)
      refine ⟨T, _, rfl, SqT.of upd_same, rfl, _, _, rfl, _, _, rfl, rfl, ?_⟩
      refine ⟨_, rfl, _, rfl, _, _, rfl, rfl, _, rfl, ?_⟩
      by_cases hm : most ≤ ((i : Nat) : Int)
      · rw [decide_eq_true hm]
        exact ⟨_, rfl, _, rfl, fun dd hdd => bad i dd _ ⟨hil, .inl hm, pre⟩ hdd s2⟩
      rw [decide_eq_false hm]
      have st := TupLe.same s2
      refine ⟨_, rfl, _, rfl, ks, r, hk.mono st, RowAt.st _ _ _ _ st hra, hsz r (List.mem_of_getElem? hr'), hk4, fun H3 s3 => ⟨_, rfl, ?_⟩⟩
      cases gr : isRow ks r with
      | false => exact ⟨_, rfl, _, rfl, fun dd hdd => bad i dd _ ⟨hil, .inr (by rw [rD]; exact gr), pre⟩ hdd (s2.trans s3)⟩
      | true =>
        refine ⟨_, _, rfl, s2.trans s3, fun j hj => ?_⟩
        rcases Nat.lt_succ_iff_lt_or_eq.mp hj with h | h
        · exact pre j h
        · rw [h, rD]
          exact ⟨by omega, gr⟩
    · rintro σ H' ⟨x3, x4, rfl, s, pre⟩
      refine k (fun r hr' => ?_) ?_ _ s
      · obtain ⟨i, hi, e⟩ := List.mem_iff_getElem.mp hr'
        have := (pre i (by omega)).2
        rw [List.getD_eq_getElem?_getD, List.getElem?_eq_getElem hi, e] at this
        exact this
      · cases hz : rows.length with
        | zero => omega
        | succ n =>
          have := (pre n (by omega)).1
          omega
abbrev N_Sieve_putX : List Str := ["self", "row"]
abbrev P_Sieve_putX : List Str := ["self", "row"]
def sp_Sieve_putX (K : PySem.W.Frag) : Sp := fun vs H Q E => match vs with
  | [s, rv] => ∃ p kv pr lo lc ks o cs many r, s = .ref p ∧ SieveS K H p kv pr lo lc ks o cs many ∧ RowAt H rv r ∧ RowSz r ∧ ks.length ≤ 4 ∧ (∀ t ∈ o, t.1 < ks.length) ∧ (∀ c ∈ cs, isRow ks c.2.2 = true) ∧ IsHeap (cless o) c0 cs ∧ cs.length ≤ 999 ∧
    (isRow ks r = false → ∀ d H1, H1 d = none → Same H H1 → E (.ref (He.ga K "BadRows")) (some d) (upd H1 d (.xd [(("place" : Str), .int 0)]))) ∧
    (isRow ks r = true → ∀ cs' H', SieveS K H' p kv pr lo lc ks o cs' (many + 1) → IsHeap (cless o) c0 cs' → cs'.Perm ((0, (many, r)) :: cs) → But [p, lc] H H' → Q (.int many) H')
  | _ => False
def t_Sieve_putX (K : PySem.W.Frag) (E : XK) : TS := (tSeq (tDrop (tCall (sp_need_rowsX K) [] E (tCons (tFl K (tVar 0) "kinds") (tCons (tLst (tCons (tVar 1) tNil)) (tConsC (.int 1) tNil)))))
  (tSeq (tDrop (tMeth (He.ga K "Room") "put" (sp_Room_put K) [] E (tFl K (tVar 0) "room") (tConsC (.int 0) (tCons (tTup (tCons (tFl K (tVar 0) "many") (tCons (tVar 1) tNil))) tNil))))
   (tSeq (sFl K (tVar 0) (tOpC xAdd (tFl K (tVar 0) "many") (.int 1)) "many")
    (tRet (tOpC xSub (tFl K (tVar 0) "many") (.int 1))))))
theorem pure_Sieve_putX {K : PySem.W.Frag} (T : TxtSieve K) : ∀ vs H Q E, sp_Sieve_putX K vs H Q E → t_Sieve_putX K E { nx := fun _ H' => Q .non H', rt := Q } (start N_Sieve_putX vs) H := by
  intro vs H Q E h
  match vs, h with
  | [s, rv], h =>
    obtain ⟨p, kv, pr, lo, lc, ks, o, cs, many, r, rfl, S, hr, hsz, hk4, hcol, hrows, hheap, hlen, bad, k⟩ := h
    refine ⟨_, rfl, g_Sieve_kinds T S.ob ⟨_, rfl, szle (by show 1 ≤ 100000; decide), fun l hl => ?_⟩⟩
    have s1 : Same H (upd H l (.lst [rv])) := Rs.Same.new hl
    have L1 : Lst RowAt (upd H l (.lst [rv])) l [r] := ⟨[rv], upd_same, P2.one (RowAt.st _ _ _ _ (TupLe.same s1) hr)⟩
    generalize upd H l (.lst [rv]) = H1 at s1 L1 ⊢
    have S1 := S.same s1
    have S1' := S1
    refine ⟨ks, [r], 1, S1.kinds, ⟨l, rfl, L1⟩, rfl, by decide, by omega, (fun x hx => by rw [List.mem_singleton.mp hx]; exact hsz), (fun n d H2 b hd s2 => ?_), fun hall _ H2 s2 => ?_⟩
    · obtain ⟨b1, b2, _⟩ := b
      have n0 : n = 0 := by
        have : n < 1 := b1
        omega
      subst n0
      rcases b2 with b2 | b2
      · exact absurd b2 (by decide)
      · exact bad b2 d H2 hd (s1.trans s2)
    have hrow : isRow ks r = true := hall r (List.mem_singleton.mpr rfl)
    have k := k hrow
    have S2 := S1.same s2
    obtain ⟨dr, hob⟩ := S2.room.ob
    refine ⟨_, rfl, g_Sieve_room T S2.ob ⟨pr, dr, _, rfl, hob, no_Room_put, _, rfl, g_Sieve_many T S2.ob ⟨_, rfl, szle (by show 2 ≤ 100000; decide), fun t ht => ?_⟩⟩⟩
    have s3 : Same H2 (upd H2 t (.tup [.int many, rv])) := Rs.Same.new ht
    have et : upd H2 t (.tup [.int many, rv]) t = some (.tup [.int many, rv]) := upd_same
    generalize upd H2 t (.tup [.int many, rv]) = H3 at s3 et ⊢
    have S3 := S2.same s3
    have s03 := (s1.trans s2).trans s3
    have hr3 := RowAt.st _ _ _ _ (TupLe.same s03) hr
    refine ⟨pr, lo, lc, o, cs, ks, 0, (many, r), rfl, rfl, S3.room, ⟨rv, ⟨t, rfl, et⟩, hr3⟩, hcol, hrow, hrows, hheap, by omega, fun cs' H4 R4 hh pm k4 => ?_⟩
    have S4 := S3.roomed k4 R4
    refine ⟨_, rfl, g_Sieve_many T S4.ob ⟨_, _, rfl, rfl, _, rfl, s_Sieve_many T S4.ob fun dx hp => ?_⟩⟩
    obtain ⟨S5, k5⟩ := S4.counted (dx := dx) (many' := many + 1)
    refine ⟨_, rfl, g_Sieve_many T S5.ob ⟨_, _, rfl, rfl, ?_⟩⟩
    dsimp only
    rw [Int.add_sub_cancel]
    refine k cs' _ S5 hh pm ?_
    exact ((But.same s03).trans (k4.wide fun x hx => by rw [List.mem_singleton] at hx; subst hx; simp)).trans (k5.wide fun x hx => by rw [List.mem_singleton] at hx; subst hx; simp)
abbrev N_Sieve_takeX : List Str := ["self"]
abbrev P_Sieve_takeX : List Str := ["self"]
def sp_Sieve_takeX (K : PySem.W.Frag) : Sp := fun vs H Q E => match vs with
  | [s] => ∃ p kv pr lo lc ks o cs many, s = .ref p ∧ SieveS K H p kv pr lo lc ks o cs many ∧ (∀ t ∈ o, t.1 < ks.length) ∧ (∀ c ∈ cs, isRow ks c.2.2 = true) ∧ IsHeap (cless o) c0 cs ∧ cs.length ≤ 1000 ∧
    (cs = [] → E (.ref (He.ga K "Empty")) none H) ∧
    (0 < cs.length → ∀ cs' v H', SieveS K H' p kv pr lo lc ks o cs' many → IsHeap (cless o) c0 cs' → (cs.getD 0 c0 :: cs').Perm cs → PairAt H' v (cs.getD 0 c0).2 → But [lc] H H' → Q v H')
  | _ => False
def t_Sieve_takeX (K : PySem.W.Frag) (E : XK) : TS := (tSeq (tIfS (tTest (tOpC rEq (tMeth (He.ga K "Room") "many_in" (sp_Room_many_in K) [] E (tFl K (tVar 0) "room") tNil) (.int 0))) (tRaise E (.ref (He.ga K "Empty"))) tNext)
  (tRet (tOpC (rIxT K) (tMeth (He.ga K "Room") "take" (sp_Room_take K) [] E (tFl K (tVar 0) "room") tNil) (.int 1))))
theorem pure_Sieve_takeX {K : PySem.W.Frag} (T : TxtSieve K) : ∀ vs H Q E, sp_Sieve_takeX K vs H Q E → t_Sieve_takeX K E { nx := fun _ H' => Q .non H', rt := Q } (start N_Sieve_takeX vs) H := by
  intro vs H Q E h
  match vs, h with
  | [s], h =>
    obtain ⟨p, kv, pr, lo, lc, ks, o, cs, many, rfl, S, hcol, hrows, hheap, hlen, bad, k⟩ := h
    obtain ⟨dr, hob⟩ := S.room.ob
    refine ⟨_, rfl, g_Sieve_room T S.ob ⟨pr, dr, _, rfl, hob, no_Room_many_in, pr, lo, lc, o, cs, rfl, S.room, ?_⟩⟩
    refine ⟨rfl, _, rfl, ?_⟩
    by_cases hc : cs = []
    · have e0 : decide (V.int ((cs.length : Nat) : Int) = V.int 0) = true := by rw [hc]; rfl
      rw [e0]
      exact bad hc
    have hpos : 0 < cs.length := List.length_pos_iff.mpr hc
    have k := k hpos
    have e0 : decide (V.int ((cs.length : Nat) : Int) = V.int 0) = false := decide_eq_false fun z => by injection z with z; omega
    rw [e0]
    refine ⟨_, rfl, g_Sieve_room T S.ob ⟨pr, dr, _, rfl, hob, no_Room_take, pr, lo, lc, o, cs, ks, rfl, S.room, hcol, hrows, hheap, hpos, hlen, fun cs' v H1 R1 hh pm hv kk => ?_⟩⟩
    obtain ⟨w, hvw, hw⟩ := hv
    exact ixT hvw (j := 1) rfl rfl (k cs' w H1 (S.roomed kk R1) hh pm hw kk)
abbrev N_Sieve_remains : List Str := ["self"]
abbrev P_Sieve_remains : List Str := ["self"]
def sp_Sieve_remains (K : PySem.W.Frag) : Sp := fun vs H Q E => match vs with
  | [s] => ∃ p kv pr lo lc ks o cs many, s = .ref p ∧ SieveS K H p kv pr lo lc ks o cs many ∧ Q (.int ((cs.length : Nat) : Int)) H
  | _ => False
def t_Sieve_remains (K : PySem.W.Frag) (E : XK) : TS := (tRet (tMeth (He.ga K "Room") "many_in" (sp_Room_many_in K) [] E (tFl K (tVar 0) "room") tNil))
theorem pure_Sieve_remains {K : PySem.W.Frag} (T : TxtSieve K) : ∀ vs H Q E, sp_Sieve_remains K vs H Q E → t_Sieve_remains K E { nx := fun _ H' => Q .non H', rt := Q } (start N_Sieve_remains vs) H := by
  intro vs H Q E h
  match vs, h with
  | [s], h =>
    obtain ⟨p, kv, pr, lo, lc, ks, o, cs, many, rfl, S, k⟩ := h
    obtain ⟨dr, hob⟩ := S.room.ob
    exact ⟨_, rfl, g_Sieve_room T S.ob ⟨pr, dr, _, rfl, hob, no_Room_many_in, pr, lo, lc, o, cs, rfl, S.room, k⟩⟩
end Rs

namespace Rs
open PySem PySem.Spec PyProof.Rows L2
open LamX
def Lms_k01 : Lams := [(("_law_deed", none), (("_law_deed" ++ ".<locals>.") ++ "<lambda>" : Str))]
abbrev N_law_bad_row : List Str := ["_law_box", "_law_kinds_here", "_law_row", "_law_k", "_law_far", "_law_values", "_law_signs", "_law_word", "_law_place", "_law_odd"]
abbrev P_law_bad_row : List Str := ["_law_box", "_law_kinds_here", "_law_row"]
def BadV (kd : Str) (w : Key) : Prop := isValue kd w = false ∧ ∀ s, w = .inr s → s.length ≤ 1000
def sp_law_bad_row (K : PySem.W.Frag) : Sp := fun vs H Q E => match vs with
  | [b, kv, rv] => ∃ a l ks r, b = .ref a ∧ Box H a l ∧ KindsAt H kv ks ∧ GoodKinds ks ∧ RowAt H rv r ∧ isRow ks r = true ∧ ∀ v x H', RowAt H' v x → RowSz x → isRow ks x = false → Box H' a l → But [a, l] H H' → Q v H'
  | _ => False
def t_law_bad_row (K : PySem.W.Frag) (E : XK) : TS := (tSeq (tAsg (tCall (sp_law_take K) [] E (tCons (tVar 0) (tCons (tCB1 (xLen K) (tVar 1)) tNil))) (gName 3))
  (tSeq (tAsg (tCall (sp_law_take K) [] E (tCons (tVar 0) (tCons (tOpC xPow (tC (.int 10)) (.int 18)) tNil))) (gName 4))
   (tSeq (tAsg (tLst (tCons (tOpD xAdd (.int 1000) (tVar 4)) (tCons (tOpD xSub (.int (-1000)) (tVar 4)) (tConsC (.str "a") (tConsC (.str "") tNil))))) (gName 5))
    (tSeq (tIfS (tTest (tOpC rEq (tOp (rIxT K) (tVar 1) (tVar 3)) (.str "word"))) 
       (tSeq (tAsg (tC (.str "ABMZ0189 -=_.!~")) (gName 6))
       (tSeq (tAsg (tSl rSlS (tCall (sp_law_value K) [] E (tCons (tVar 0) (tConsC (.str "word") tNil))) tNoPart (tPart (tC (.int 5)))) (gName 7))
        (tSeq (tAsg (tCall (sp_law_take K) [] E (tCons (tVar 0) (tCons (tOpC xAdd (tCB1 xLenS (tVar 7)) (.int 1)) tNil))) (gName 8))
         (tSeq (tAsg (tOp xAddS (tOp xAddS (tSl rSlS (tVar 7) tNoPart (tPart (tVar 8))) (tOp rIxS (tVar 6) (tCall (sp_law_take K) [] E (tCons (tVar 0) (tConsC (.int 15) tNil))))) (tSl rSlS (tVar 7) (tPart (tVar 8)) tNoPart)) (gName 9))
          (tAsg (tLst (tCons (tVar 9) (tCons (tVar 9) (tCons (tOpC xAddS (tVar 7) (.str "abcdefg")) (tCons (tVar 4) tNil))))) (gName 5)))))) tNext)
     (tSeq (tAsg (tOp (rCatA K) (tOp (rCatA K) (tSl (rSlTA K) (tVar 2) tNoPart (tPart (tVar 3))) (tTup (tCons (tOp (rIxL K) (tVar 5) (tCall (sp_law_take K) [] E (tCons (tVar 0) (tConsC (.int 4) tNil)))) tNil))) (tSl (rSlTA K) (tVar 2) (tPart (tOpC xAdd (tVar 3) (.int 1))) tNoPart)) (gName 9))
      (tRet (tOp (rIxL K) (tLst (tCons (tVar 9) (tCons (tVar 9) (tCons (tVar 9) (tCons (tOp (rCatA K) (tVar 2) (tSl (rSlTA K) (tVar 2) tNoPart (tPart (tC (.int 1))))) (tCons (tSl (rSlTA K) (tVar 2) (tPart (tC (.int 1))) tNoPart) (tCons (tTup tNil) tNil))))))) (tCall (sp_law_take K) [] E (tCons (tVar 0) (tConsC (.int 6) tNil))))))))))
theorem sliceRow {K : PySem.W.Frag} {H : Hp} {v : V} {r : Row} {lo hi : Option Int} {i j : Nat} {Q : VK} (h : RowAt H v r) (hc : ∀ vs : List V, vs.length = r.length → cutV vs lo hi = (vs.drop i).take j) (k : ∀ v' H', Same H H' → RowAt H' v' ((r.drop i).take j) → Q v' H') : rSlA K v lo hi H Q := by
  obtain ⟨a, rfl, e⟩ := h
  have ec := hc (r.map kV) (List.length_map ..)
  refine ⟨a, _, rfl, SqT.of e, fun ⟨h1, h2⟩ => k _ _ (Same.refl _) ⟨a, rfl, ?_⟩, fun _ p hp => k _ _ (Rs.Same.new hp) ⟨p, rfl, ?_⟩⟩
  · have : cutV (r.map kV) lo hi = r.map kV := by
      unfold cutV
      rw [h1, h2, List.drop_zero, Nat.sub_zero]
      exact List.take_length
    rw [List.map_take, List.map_drop, ← ec, this]
    exact e
  · rw [upd_same, ec, List.map_take, List.map_drop]
theorem catRow {K : PySem.W.Frag} {H : Hp} {x y : V} {r s : Row} {Q : VK} (hx : RowAt H x r) (hy : RowAt H y s) (hl : r.length + s.length ≤ 100000) (k : ∀ v H', Same H H' → RowAt H' v (r ++ s) → Q v H') : rCatA K x y H Q := by
  obtain ⟨a, rfl, ea⟩ := hx
  obtain ⟨b, rfl, eb⟩ := hy
  refine ⟨a, b, _, _, rfl, rfl, SqT.of ea, SqT.of eb, szle (by rw [List.length_map, List.length_map]; exact hl), fun z => ?_, fun _ z => ?_, fun _ _ p hp => k _ _ (Rs.Same.new hp) ⟨p, rfl, by rw [upd_same, List.map_append]⟩⟩
  · have : r = [] := List.map_eq_nil_iff.mp z
    subst this
    exact k _ _ (Same.refl _) ⟨b, rfl, eb⟩
  · have : s = [] := List.map_eq_nil_iff.mp z
    subst this
    exact k _ _ (Same.refl _) ⟨a, rfl, by rw [List.append_nil]; exact ea⟩
theorem badrow_len {ks : List Str} {r : Row} (h : r.length ≠ ks.length) : isRow ks r = false := by
  unfold isRow
  rw [decide_eq_false h]
  rfl
theorem badrow_at {ks : List Str} {r : Row} {n : Nat} (hn : n < ks.length) (h : isValue (ks.getD n "") (kcol r n) = false) : isRow ks r = false := by
  cases e : isRow ks r with
  | false => rfl
  | true =>
    have := isRow_val e hn
    rw [h] at this
    exact nomatch this
theorem app_list (x y : Str) : (x ++ y).cps.toList = x.cps.toList ++ y.cps.toList := by
  show (x.cps ++ y.cps).toList = _
  exact Array.toList_append ..
theorem app_len (x y : Str) : (x ++ y).length = x.length + y.length := by
  show (x.cps ++ y.cps).size = _
  exact Array.size_append ..
def badSigns : Str := "ABMZ0189 -=_.!~"
theorem badSigns_no : ∀ i : Nat, i < 15 → ∃ c, atI badSigns.cps.toList (i : Int) = some c ∧ c ∉ letters := by
  intro i hi
  have : ∀ j : Fin 15, ∃ c, atI badSigns.cps.toList (j.val : Int) = some c ∧ c ∉ letters := by
    intro j
    have h : ∀ j : Fin 15, ((atI badSigns.cps.toList (j.val : Int)).elim false fun c => decide (c ∉ letters)) = true := by decide +kernel
    have h := h j
    cases e : atI badSigns.cps.toList (j.val : Int) with
    | none => rw [e] at h; exact nomatch h
    | some c => rw [e] at h; exact ⟨c, rfl, of_decide_eq_true h⟩
  exact this ⟨i, hi⟩
theorem badV_num {far : Int} (h : 0 ≤ far) : BadV "number" (.inl (1000 + far)) ∧ BadV "number" (.inl (-1000 - far)) ∧ BadV "number" (.inr "a") ∧ BadV "number" (.inr "") := by
  refine ⟨⟨?_, fun s e => nomatch e⟩, ⟨?_, fun s e => nomatch e⟩, ⟨by decide +kernel, fun s e => by cases e; decide +kernel⟩, ⟨by decide +kernel, fun s e => by cases e; decide +kernel⟩⟩
  · show (decide (("number" : Str) ≠ "word") && (decide (-999 ≤ 1000 + far) && decide (1000 + far ≤ 999))) = false
    rw [decide_eq_false (show ¬ (1000 + far ≤ 999) by omega)]
    simp
  · show (decide (("number" : Str) ≠ "word") && (decide (-999 ≤ -1000 - far) && decide (-1000 - far ≤ 999))) = false
    rw [decide_eq_false (show ¬ (-999 ≤ -1000 - far) by omega)]
    simp
theorem badV_int {n : Int} : BadV "word" (.inl n) := ⟨by
  show (decide (("word" : Str) ≠ "word") && (decide (-999 ≤ n) && decide (n ≤ 999))) = false
  rw [decide_eq_false (fun z => z rfl)]
  rfl, fun s e => nomatch e⟩
theorem badV_sign {x : Str} {c : Nat} (h : c ∈ x.cps.toList) (nl : c ∉ letters) (sz : x.length ≤ 1000) : BadV "word" (.inr x) := ⟨by
  show (decide (("word" : Str) = "word") && (decide (x.length ≤ 6) && x.cps.toList.all fun c => decide (c ∈ letters))) = false
  have : (x.cps.toList.all fun c => decide (c ∈ letters)) = false := by
    rw [List.all_eq_false]
    exact ⟨c, h, by simpa using nl⟩
  rw [this]
  simp, fun s e => by cases e; exact sz⟩
theorem badV_long {x : Str} (h : 6 < x.length) (sz : x.length ≤ 1000) : BadV "word" (.inr x) := ⟨by
  show (decide (("word" : Str) = "word") && (decide (x.length ≤ 6) && x.cps.toList.all fun c => decide (c ∈ letters))) = false
  rw [decide_eq_false (show ¬ x.length ≤ 6 by omega)]
  simp, fun s e => by cases e; exact sz⟩
theorem pure_law_bad_row {K : PySem.W.Frag} : ∀ vs H Q E, sp_law_bad_row K vs H Q E → t_law_bad_row K E { nx := fun _ H' => Q .non H', rt := Q } (start N_law_bad_row vs) H := by
  intro vs H Q E h
  match vs, h with
  | [b, kv, rv], h =>
    obtain ⟨a, l, ks, r, rfl, B, hk, gk, hr, row, k⟩ := h
    have lr : r.length = ks.length := isRow_len row
    have g1 := gk.pos
    have g4 := gk.le
    have rsz := RowSz.of row gk.le
    refine ⟨_, rfl, _, rfl, lenT hk (by rw [List.length_map]) ⟨a, l, _, rfl, rfl, by omega, by omega, B, fun k0 H1 q0 q1 B1 k1 => ?_⟩⟩
    obtain ⟨n, rfl⟩ : ∃ n : Nat, k0 = (n : Int) := ⟨k0.toNat, by omega⟩
    have hn : n < ks.length := by omega
    refine ⟨_, rfl, _, _, rfl, rfl, ⟨by decide, by decide, by decide⟩, a, l, _, rfl, rfl, by decide, by decide, B1, fun far H2 f0 f1 B2 k2 => ?_⟩
    have f1' : far < 1000000000000000000 := f1
    have k02 := k1.trans k2
    -- behind the values
    have fin : ∀ (p5 : Addr) (ws : List Key) (H5 : Hp) (x6 x7 x8 x9 : Option V), H5 p5 = some (.lst (ws.map kV)) → p5 ∉ [a, l] → ws.length = 4 → (∀ w ∈ ws, BadV (ks.getD n "") w) → Box H5 a l → But [a, l] H H5 →
        (tSeq (tAsg (tOp (rCatA K) (tOp (rCatA K) (tSl (rSlTA K) (tVar 2) tNoPart (tPart (tVar 3))) (tTup (tCons (tOp (rIxL K) (tVar 5) (tCall (sp_law_take K) [] E (tCons (tVar 0) (tConsC (.int 4) tNil)))) tNil))) (tSl (rSlTA K) (tVar 2) (tPart (tOpC xAdd (tVar 3) (.int 1))) tNoPart)) (gName 9))
      (tRet (tOp (rIxL K) (tLst (tCons (tVar 9) (tCons (tVar 9) (tCons (tVar 9) (tCons (tOp (rCatA K) (tVar 2) (tSl (rSlTA K) (tVar 2) tNoPart (tPart (tC (.int 1))))) (tCons (tSl (rSlTA K) (tVar 2) (tPart (tC (.int 1))) tNoPart) (tCons (tTup tNil) tNil))))))) (tCall (sp_law_take K) [] E (tCons (tVar 0) (tConsC (.int 6) tNil))))))
        { nx := fun _ H' => Q .non H', rt := Q } [some (.ref a), some kv, some rv, some (.int (n : Int)), some (.int far), some (.ref p5), x6, x7, x8, x9] H5 := by
      intro p5 ws H5 x6 x7 x8 x9 e5 n5 w4 bad B5 k5
      have hr5 := hr.mono (B.tup k5)
      refine ⟨_, rfl, ?_⟩
      unfold tNoPart
      dsimp only
      refine ⟨_, rfl, _, rfl, sliceRow hr5 (i := 0) (j := n) (fun vs e => by rw [List.drop_zero]; exact cut_to (by omega)) fun v1 H6 s6 h1 => ⟨_, rfl, _, rfl, a, l, _, rfl, rfl, by decide, by decide, B5.same s6, fun m0 H7 m1 m2 B7 k7 => ?_⟩⟩
      obtain ⟨m, rfl⟩ : ∃ m : Nat, m0 = (m : Int) := ⟨m0.toNat, by omega⟩
      have hm : m < ws.length := by omega
      have t67 := (B5.same s6).tup k7
      refine ixL (k7 _ _ (s6 _ _ e5) n5) rfl (by rw [List.getElem?_map, List.getElem?_eq_getElem hm]; rfl) ⟨szle (by show 1 ≤ 100000; decide), fun q hq => ?_⟩
      have bw := bad _ (List.getElem_mem hm)
      generalize ws[m] = w at bw ⊢
      have s8 : Same H7 (upd H7 q (.tup [kV w])) := Rs.Same.new hq
      have hq8 : RowAt (upd H7 q (.tup [kV w])) (.ref q) [w] := ⟨q, rfl, upd_same⟩
      generalize upd H7 q (.tup [kV w]) = H8 at s8 hq8 ⊢
      have lt : ((r.drop 0).take n).length = n := by rw [List.drop_zero, List.length_take]; omega
      refine catRow (h1.mono (t67.trans (TupLe.same s8))) hq8 (by rw [lt, List.length_singleton]; omega) fun v2 H9 s9 h2 => ?_
      have k59 : But [a, l] H5 H9 := (But.same s6).trans (k7.trans (But.same (s8.trans s9)))
      have B9 := B7.same (s8.trans s9)
      have hr9 := hr5.mono (B5.tup k59)
      refine ⟨_, rfl, _, rfl, _, _, rfl, rfl, ?_⟩
      refine ⟨_, rfl, ?_⟩
      dsimp only
      refine sliceRow hr9 (i := n + 1) (j := r.length) (fun vs e => by rw [show ((n : Int) + 1) = ((n + 1 : Nat) : Int) by omega, cut_from (by omega), List.take_of_length_le (by rw [List.length_drop]; omega)]) fun v3 H10 s10 h3 => ?_
      have ld : ((r.drop (n + 1)).take r.length).length ≤ 4 := by rw [List.length_take, List.length_drop]; omega
      refine catRow (h2.mono (TupLe.same s10)) h3 (by rw [List.length_append, lt, List.length_singleton]; omega) fun v4 H11 s11 h4 => ?_
      have k511 := k59.trans (But.same (S := [a, l]) (s10.trans s11))
      have B11 := B9.same (s10.trans s11)
      have hr11 := hr5.mono (B5.tup k511)
      -- the odd row
      have odd : isRow ks ((r.drop 0).take n ++ [w] ++ (r.drop (n + 1)).take r.length) = false := by
        refine badrow_at hn ?_
        have : kcol ((r.drop 0).take n ++ [w] ++ (r.drop (n + 1)).take r.length) n = w := by
          unfold kcol
          rw [List.getD_eq_getElem?_getD, List.append_assoc, List.getElem?_append_right (by omega), lt, Nat.sub_self]
          rfl
        rw [this]
        exact bw.1
      have oddz : RowSz ((r.drop 0).take n ++ [w] ++ (r.drop (n + 1)).take r.length) := by
        refine ⟨by rw [List.length_append, List.length_append, lt, List.length_singleton]; omega, fun s hs => ?_⟩
        rcases List.mem_append.mp hs with hs | hs
        · rcases List.mem_append.mp hs with hs | hs
          · exact rsz.2 s (List.mem_of_mem_drop (List.mem_of_mem_take hs))
          · exact bw.2 s (List.mem_singleton.mp hs).symm
        · exact rsz.2 s (List.mem_of_mem_drop (List.mem_of_mem_take hs))
      generalize (r.drop 0).take n ++ [w] ++ (r.drop (n + 1)).take r.length = x at odd oddz h4
      refine ⟨_, rfl, _, rfl, _, rfl, _, rfl, _, rfl, _, rfl, sliceRow hr11 (i := 0) (j := 1) (fun vs e => by rw [List.drop_zero]; exact cut_to (n := 1) (by omega)) fun v5 H12 s12 h5 => ?_⟩
      refine catRow (hr11.mono (TupLe.same s12)) h5 (by rw [List.length_take]; omega) fun v6 H13 s13 h6 => ⟨_, rfl, _, rfl, sliceRow (hr11.mono (TupLe.same (s12.trans s13))) (i := 1) (j := r.length) (fun vs e => by rw [show (1 : Int) = ((1 : Nat) : Int) by rfl, cut_from (by omega), List.take_of_length_le (by rw [List.length_drop]; omega)]) fun v7 H14 s14 h7 => ⟨sz0, fun e he => ⟨szle (by show 6 ≤ 100000; decide), fun c hc => ?_⟩⟩⟩
      have s15 : Same H14 (upd H14 e (.tup [])) := Rs.Same.new he
      have h8 : RowAt (upd H14 e (.tup [])) (.ref e) [] := ⟨e, rfl, upd_same⟩
      generalize upd H14 e (.tup []) = H15 at s15 h8 hc ⊢
      have s16 : Same H15 (upd H15 c (.lst [v4, v4, v4, v6, v7, .ref e])) := Rs.Same.new hc
      have ec : upd H15 c (.lst [v4, v4, v4, v6, v7, .ref e]) c = some (.lst [v4, v4, v4, v6, v7, .ref e]) := upd_same
      have s1115 := ((s12.trans s13).trans s14).trans s15
      have nc := (B11.same s1115).fresh hc
      generalize upd H15 c (.lst [v4, v4, v4, v6, v7, .ref e]) = H16 at s16 ec ⊢
      have B16 := (B11.same s1115).same s16
      refine ⟨_, rfl, a, l, _, rfl, rfl, by decide, by decide, B16, fun i H17 i0 i1 B17 k17 => ?_⟩
      have t17 := B16.tup k17
      have kk : But [a, l] H H17 := ((k5.trans k511).trans (But.same (S := [a, l]) (s1115.trans s16))).trans k17
      have u : ∀ {Ha : Hp} {v : V} {y : Row}, Same Ha H16 → RowAt Ha v y → RowAt H17 v y := fun s h => h.mono ((TupLe.same s).trans t17)
      have u4 := u (s1115.trans s16) h4
      have u6 := u ((s14.trans s15).trans s16) h6
      have u7 := u (s15.trans s16) h7
      have u8 := u s16 h8
      have lr1 : r.length = ks.length := lr
      have b6 : isRow ks (r ++ (r.drop 0).take 1) = false := badrow_len (by rw [List.length_append, List.drop_zero, List.length_take]; omega)
      have z6 : RowSz (r ++ (r.drop 0).take 1) := ⟨by rw [List.length_append, List.drop_zero, List.length_take]; omega, fun s hs => by
        rcases List.mem_append.mp hs with hs | hs
        · exact rsz.2 s hs
        · exact rsz.2 s (List.mem_of_mem_drop (List.mem_of_mem_take hs))⟩
      have b7 : isRow ks ((r.drop 1).take r.length) = false := badrow_len (by rw [List.length_take, List.length_drop]; omega)
      have z7 : RowSz ((r.drop 1).take r.length) := ⟨by rw [List.length_take, List.length_drop]; omega, fun s hs => rsz.2 s (List.mem_of_mem_drop (List.mem_of_mem_take hs))⟩
      have b8 : isRow ks [] = false := badrow_len (by rw [List.length_nil]; omega)
      have z8 : RowSz ([] : Row) := ⟨by decide, fun s hs => nomatch hs⟩
      have ec17 := k17 _ _ ec nc
      have : i = 0 ∨ i = 1 ∨ i = 2 ∨ i = 3 ∨ i = 4 ∨ i = 5 := by omega
      rcases this with rfl | rfl | rfl | rfl | rfl | rfl
      · exact ixL ec17 (j := 0) rfl rfl (k _ _ _ u4 oddz odd B17 kk)
      · exact ixL ec17 (j := 1) rfl rfl (k _ _ _ u4 oddz odd B17 kk)
      · exact ixL ec17 (j := 2) rfl rfl (k _ _ _ u4 oddz odd B17 kk)
      · exact ixL ec17 (j := 3) rfl rfl (k _ _ _ u6 z6 b6 B17 kk)
      · exact ixL ec17 (j := 4) rfl rfl (k _ _ _ u7 z7 b7 B17 kk)
      · exact ixL ec17 (j := 5) rfl rfl (k _ _ _ u8 z8 b8 B17 kk)
    refine ⟨_, rfl, _, _, rfl, rfl, _, rfl, _, _, rfl, rfl, szle (by show 4 ≤ 100000; decide), fun p5 hp5 => ?_⟩
    have n5 := B2.fresh hp5
    have s3 : Same H2 (upd H2 p5 (.lst [.int (1000 + far), .int (-1000 - far), .str "a", .str ""])) := Rs.Same.new hp5
    have e5 : upd H2 p5 (.lst [.int (1000 + far), .int (-1000 - far), .str "a", .str ""]) p5 = some (.lst ([.inl (1000 + far), .inl (-1000 - far), .inr "a", .inr ""].map kV)) := upd_same
    dsimp only
    generalize upd H2 p5 (.lst [.int (1000 + far), .int (-1000 - far), .str "a", .str ""]) = H3 at s3 e5 ⊢
    have k03 := k02.trans (But.same (S := [a, l]) s3)
    have B3 := B2.same s3
    have ek : (ks.map V.str)[n]? = some (.str (ks.getD n "")) := by
      rw [List.getElem?_map, List.getD_eq_getElem?_getD, List.getElem?_eq_getElem hn]
      rfl
    have kd : ks.getD n "" = "number" ∨ ks.getD n "" = "word" := gk.all _ (by rw [List.getD_eq_getElem?_getD, List.getElem?_eq_getElem hn]; exact List.getElem_mem hn)
    refine ⟨_, rfl, _, rfl, ixT (hk.mono (B.tup k03)) rfl ek ⟨rfl, _, rfl, ?_⟩⟩
    rcases kd with kd | kd
    · rw [kd] at fin ⊢
      have e : decide (V.str "number" = V.str "word") = false := by decide +kernel
      rw [e]
      obtain ⟨c1, c2, c3, c4⟩ := badV_num f0
      refine fin p5 _ H3 _ _ _ _ e5 n5 rfl (fun w hw => ?_) B3 k03
      simp only [List.mem_cons, List.not_mem_nil, or_false] at hw
      rcases hw with rfl | rfl | rfl | rfl
      · exact c1
      · exact c2
      · exact c3
      · exact c4
    · rw [kd] at fin ⊢
      have e : decide (V.str "word" = V.str "word") = true := decide_eq_true rfl
      rw [e, if_pos rfl]
      refine ⟨_, rfl, a, l, "word", rfl, rfl, .inr rfl, B3, fun x H4 vx B4 k4 => ?_⟩
      unfold tNoPart
      dsimp only
      have k04 := k03.trans k4
      obtain ⟨z, rfl, z6⟩ : ∃ z, x = .inr z ∧ z.length ≤ 6 := by
        cases x with
        | inl i => exact absurd vx (by rw [badV_int.1]; exact fun h => nomatch h)
        | inr z =>
          refine ⟨z, rfl, ?_⟩
          simp only [isValue, Bool.and_eq_true, decide_eq_true_eq] at vx
          exact vx.2.1
      refine ⟨_, rfl, z, rfl, szle (by omega), ?_⟩
      have wl : (cutS z none (some 5)).length ≤ 6 := Nat.le_trans (cutS_length _ _ _) z6
      generalize cutS z none (some 5) = w at wl ⊢
      refine ⟨_, rfl, _, rfl, w, rfl, szle (by omega), _, _, rfl, rfl, a, l, _, rfl, rfl, by omega, by omega, B4, fun place H5 p0 p1 B5' k5 => ?_⟩
      refine ⟨_, rfl, _, rfl, _, rfl, w, rfl, szle (by omega), ?_⟩
      refine ⟨_, rfl, _, rfl, a, l, _, rfl, rfl, by decide, by decide, B5', fun i0 H6 i1 i2 B6 k6 => ?_⟩
      obtain ⟨i, rfl⟩ : ∃ n : Nat, i0 = (n : Int) := ⟨i0.toNat, by omega⟩
      obtain ⟨c, hc, nc⟩ := badSigns_no i (by omega)
      refine ⟨_, _, c, rfl, rfl, szle (by decide), hc, ?_⟩
      have l1 : (cutS w none (some place)).length ≤ 6 := Nat.le_trans (cutS_length _ _ _) wl
      have l2 : (cutS w (some place) none).length ≤ 6 := Nat.le_trans (cutS_length _ _ _) wl
      generalize cutS w none (some place) = w1 at l1 ⊢
      have l3 : (w1 ++ ⟨#[c]⟩).length = w1.length + 1 := app_len ..
      refine ⟨_, _, rfl, rfl, szle (by show w1.length + 1 ≤ 100000; omega), _, rfl, _, rfl, _, rfl, w, rfl, szle (by omega), _, _, rfl, rfl, szle (by omega), ?_⟩
      generalize cutS w (some place) none = w2 at l2 ⊢
      have m1 : c ∈ (w1 ++ ⟨#[c]⟩ ++ w2).cps.toList := by
        rw [app_list, app_list]
        simp
      have l4 : (w1 ++ ⟨#[c]⟩ ++ w2).length = w1.length + 1 + w2.length := by rw [app_len, l3]
      generalize w1 ++ ⟨#[c]⟩ ++ w2 = odd at m1 l4 ⊢
      refine ⟨_, rfl, _, rfl, _, rfl, _, _, rfl, rfl, szle (by show w.length + 7 ≤ 100000; omega), _, rfl, szle (by show 4 ≤ 100000; decide), fun p7 hp7 => ?_⟩
      have n7 := B6.fresh hp7
      have s7 : Same H6 (upd H6 p7 (.lst [.str odd, .str odd, .str (w ++ "abcdefg"), .int far])) := Rs.Same.new hp7
      have e7 : upd H6 p7 (.lst [.str odd, .str odd, .str (w ++ "abcdefg"), .int far]) p7 = some (.lst ([.inr odd, .inr odd, .inr (w ++ "abcdefg"), .inl far].map kV)) := upd_same
      generalize upd H6 p7 (.lst [.str odd, .str odd, .str (w ++ "abcdefg"), .int far]) = H7 at s7 e7 ⊢
      have l5 : (w ++ "abcdefg").length = w.length + 7 := app_len ..
      refine fin p7 _ H7 _ _ _ _ e7 n7 rfl (fun v hv => ?_) (B6.same s7) ((k04.trans (k5.trans k6)).trans (But.same s7))
      simp only [List.mem_cons, List.not_mem_nil, or_false] at hv
      rcases hv with rfl | rfl | rfl | rfl
      · exact badV_sign m1 nc (by omega)
      · exact badV_sign m1 nc (by omega)
      · exact badV_long (by omega) (by omega)
      · exact badV_int
end Rs

namespace Rs
open PySem PySem.Spec PyProof.Rows L2
open LamX
theorem ButN.same {F : List Addr} {H H' : Hp} (s : Same H H') : ButN F H H' := fun x u e _ _ => s x u e
theorem ButN.refl {F : List Addr} {H : Hp} : ButN F H H := fun x u e _ _ => e
theorem ButN.lst {F : List Addr} {H H' : Hp} (k : ButN F H H') {x : Addr} {vs : List V} (e : H x = some (.lst vs)) (n : x ∉ F) : H' x = some (.lst vs) := k _ _ e (fun _ z => by cases z) n
theorem Lst.keepN {α : Type} {R : Rel α} (st : Stable R) {F : List Addr} {H H' : Hp} {x : Addr} {xs : List α} (t : TupLe H H') (k : ButN F H H') (L : Lst R H x xs) (n : x ∉ F) : Lst R H' x xs := let ⟨_, a, b⟩ := L; ⟨_, k.lst a n, Paired.tl st t b⟩
theorem SieveS.keepN {K : PySem.W.Frag} {H H' : Hp} {p pr lo lc : Addr} {kv : V} {ks : List Str} {o : Ord} {cs : List Cell} {many : Int} {F : List Addr} (S : SieveS K H p kv pr lo lc ks o cs many) (t : TupLe H H') (k : ButN F H H') (h : ∀ b, b = p ∨ b = pr ∨ b = lo ∨ b = lc → b ∉ F) : SieveS K H' p kv pr lo lc ks o cs many := by
  obtain ⟨dx, e⟩ := S.ob
  obtain ⟨dr, er⟩ := S.room.ob
  exact ⟨⟨dx, k _ _ e (fun _ z => by cases z) (h _ (.inl rfl))⟩, S.kinds.mono t, ⟨⟨dr, k _ _ er (fun _ z => by cases z) (h _ (.inr (.inl rfl)))⟩, S.room.ord.keepN TurnAt.st t k (h _ (.inr (.inr (.inl rfl)))), S.room.cells.keepN CellAt.st t k (h _ (.inr (.inr (.inr rfl)))), S.room.ne⟩, S.ne⟩
structure Sd (K : PySem.W.Frag) (H : Hp) (kv : V) (ks : List Str) (o : Ord) (rows : List Row) (sd ll ps pr lo lc : Addr) (left : List Pr) (many : Nat) : Prop where
  el : H sd = some (.lst [.ref ps, .ref ll, .int (many : Int)])
  L : Lst PairAt H ll left
  S : ∃ cs, SieveS K H ps kv pr lo lc ks o cs (many : Int) ∧ IsHeap (cless o) c0 cs ∧ cs.Perm (cells 0 left [])
  up : Up o left
  fr : ∀ p ∈ left, ∃ i : Nat, i < many ∧ p.1 = (i : Int) ∧ rows[i]? = some p.2
  nd : (left.map (·.1)).Nodup
  le : many ≤ rows.length
  few : left.length ≤ many
  n1 : sd ≠ ll
  n2 : sd ≠ lc
  n3 : ll ≠ lc
  n4 : lo ≠ sd
  n5 : lo ≠ ll
section
variable {K : PySem.W.Frag} {H H' : Hp} {kv : V} {ks : List Str} {o : Ord} {rows : List Row} {sd ll ps pr lo lc : Addr} {left : List Pr} {many : Nat}
theorem Sd.fine (D : Sd K H kv ks o rows sd ll ps pr lo lc left many) (g : ∀ r ∈ rows, isRow ks r = true) : Fine ks left := ⟨fun p hp => let ⟨i, _, _, e⟩ := D.fr p hp; g _ (List.mem_of_getElem? e), D.nd⟩
abbrev sdF (sd ll ps lc : Addr) : List Addr := [sd, ll, ps, lc]
theorem Sd.noTup (D : Sd K H kv ks o rows sd ll ps pr lo lc left many) : ∀ x ∈ sdF sd ll ps lc, ∀ xs, H x ≠ some (.tup xs) := fun x hx xs e => by
  obtain ⟨cs, S, _⟩ := D.S
  obtain ⟨dx, ep⟩ := S.ob
  obtain ⟨vs, el, _⟩ := D.L
  obtain ⟨us, ec, _⟩ := S.room.cells
  simp only [List.mem_cons, List.not_mem_nil, or_false] at hx
  rcases hx with rfl | rfl | rfl | rfl
  · rw [D.el] at e; cases e
  · rw [el] at e; cases e
  · rw [ep] at e; cases e
  · rw [ec] at e; cases e
theorem Sd.free (D : Sd K H kv ks o rows sd ll ps pr lo lc left many) : Free (sdF sd ll ps lc) H := fun x hx u e => by
  obtain ⟨cs, S, _⟩ := D.S
  obtain ⟨dx, ep⟩ := S.ob
  obtain ⟨vs, el, _⟩ := D.L
  obtain ⟨us, ec, _⟩ := S.room.cells
  simp only [List.mem_cons, List.not_mem_nil, or_false] at hx
  rcases hx with rfl | rfl | rfl | rfl
  · rw [D.el] at e; cases e; exact free_lst
  · rw [el] at e; cases e; exact free_lst
  · rw [ep] at e; cases e; exact ⟨fun _ z => (by cases z), fun _ _ z => (by unfold CodeO at z; cases z)⟩
  · rw [ec] at e; cases e; exact free_lst
theorem Sd.keepN {F : List Addr} (D : Sd K H kv ks o rows sd ll ps pr lo lc left many) (t : TupLe H H') (k : ButN F H H') (h : ∀ b ∈ [sd, ll, ps, pr, lo, lc], b ∉ F) : Sd K H' kv ks o rows sd ll ps pr lo lc left many := by
  obtain ⟨cs, S, hh, pm⟩ := D.S
  refine ⟨k.lst D.el (h _ (by simp)), D.L.keepN PairAt.st t k (h _ (by simp)), ⟨cs, S.keepN t k (fun b hb => h b ?_), hh, pm⟩, D.up, D.fr, D.nd, D.le, D.few, D.n1, D.n2, D.n3, D.n4, D.n5⟩
  rcases hb with rfl | rfl | rfl | rfl <;> simp
end
abbrev N_law_deed : List Str := ["_law_box", "_law_kinds_here", "_law_order_here", "_law_rows_here", "_law_side", "_law_sieve", "_law_left", "_law_many", "_law_way", "_law_odd", "_law_kind"]
abbrev P_law_deed : List Str := ["_law_box", "_law_kinds_here", "_law_order_here", "_law_rows_here", "_law_side"]
def sp_law_deed (K : PySem.W.Frag) : Sp := fun vs H Q E => match vs with
  | [b, kv, ov, rv, sv] => ∃ a l ks o rows lo lr sd ll ps pr lo2 lc left many, b = .ref a ∧ Box H a l ∧ Tabs (tabs Lms_k01 K) H ∧ KindsAt H kv ks ∧ GoodKinds ks ∧ ov = .ref lo ∧ Lst TurnAt H lo o ∧ GoodOrd ks o ∧ rv = .ref lr ∧ Lst RowAt H lr rows ∧ (∀ r ∈ rows, isRow ks r = true) ∧ rows.length ≤ 60 ∧ sv = .ref sd ∧
    Sd K H kv ks o rows sd ll ps pr lo2 lc left many ∧ (∀ x ∈ [a, l, lo, lr], x ∉ sdF sd ll ps lc) ∧ (∀ x ∈ [sd, ll, ps, pr, lo2, lc, lo, lr], x ∉ [a, l]) ∧
    ∀ ll' left' many' H', Sd K H' kv ks o rows sd ll' ps pr lo2 lc left' many' → (ll' = ll ∨ H ll' = none) → Box H' a l → Tabs (tabs Lms_k01 K) H' → ButN ([a, l] ++ sdF sd ll ps lc) H H' → Q (.bl true) H'
  | _ => False
def t_law_deed (K : PySem.W.Frag) (LS : List LamF) (E : XK) : TS := (tSeq (tAsg (tVar 4) (gLst K 3 (gCons (gName 5) (gCons (gName 6) (gCons (gName 7) gNil)))))
  (tSeq (tAsg (tCall (sp_law_take K) [] E (tCons (tVar 0) (tConsC (.int 6) tNil))) (gName 8))
   (tSeq (tIfS (tAnd (tTest (tOpC xLt (tVar 8) (.int 3))) (tTest (tOp xLt (tVar 7) (tCB1 (xLen K) (tVar 3))))) 
      (tSeq (tAsg (tCall (sp_law_sorted K) [] E (tCons (tVar 2) (tCons (tOp rCat (tVar 6) (tLst (tCons (tTup (tCons (tVar 7) (tCons (tOp (rIxL K) (tVar 3) (tVar 7)) tNil))) tNil))) tNil))) (gSubC (tVar 4) (.int 1) rSetL))
      (tSeq (tAsg (tOpC xAdd (tVar 7) (.int 1)) (gSubC (tVar 4) (.int 2) rSetL))
       (tRet (tCall (sp_law_alike K) [] E (tCons (tMeth (He.ga K "Sieve") "put" (sp_Sieve_putX K) [] E (tVar 5) (tCons (tOp (rIxL K) (tVar 3) (tVar 7)) tNil)) (tCons (tVar 7) tNil)))))) tNext)
    (tSeq (tIfS (tTest (tOpC rEq (tVar 8) (.int 5))) 
       (tSeq (tAsg (tCall (sp_law_bad_row K) [] E (tCons (tVar 0) (tCons (tVar 1) (tCons (tCB1 (xTuple K) (tLc (iTup K (tVar 1)) (gName 10) tYes (tCall (sp_law_value K) [] E0 (tCons (tVar 0) (tCons (tVar 10) tNil))) [10])) tNil)))) (gName 9))
       (tRet (tAllC LS [ (0, fun E => (tMeth (He.ga K "Sieve") "put" (sp_Sieve_putX K) [] E (tVar 5) (tCons (tVar 9) tNil))) ] (t_law_all K) N_law_all (tCons (tLst (tCons (tLamM (tabs Lms_k01 K) LS 0) tNil)) (tCons (tTup (tConsC (.str "BadRows") (tConsC (.int 0) tNil))) tNil))))) tNext)
     (tSeq (tIfS (tTest (tOp (xEqE K) (tVar 6) (tLst tNil))) (tRet (tAllC LS [ (1, fun E => (tMeth (He.ga K "Sieve") "take" (sp_Sieve_takeX K) [] E (tVar 5) tNil)) ] (t_law_all K) N_law_all (tCons (tLst (tCons (tLamM (tabs Lms_k01 K) LS 1) tNil)) (tCons (tTup (tConsC (.str "Empty") (tConsC (.int 0) tNil))) tNil)))) tNext)
      (tRet (tCall (sp_law_alike K) [] E (tCons (tMeth (He.ga K "Sieve") "take" (sp_Sieve_takeX K) [] E (tVar 5) tNil) (tCons (tBM K "list" rPopAt (tVar 6) (tConsC (.int 0) tNil)) tNil)))))))))
theorem pure_law_deed {K : PySem.W.Frag} (eBadRows : ErrIs K "BadRows") (mBadRows : ErrMk K "BadRows" "place") (eEmpty : ErrIs K "Empty") : ∀ LS vs H Q E, sp_law_deed K vs H Q E → t_law_deed K LS E { nx := fun _ H' => Q .non H', rt := Q } (start N_law_deed vs) H := by
  intro LS vs H Q E h
  match vs, h with
  | [b, kv, ov, rv, sv], h =>
    obtain ⟨a, l, ks, o, rows, lo, lr, sd, ll, ps, pr, lo2, lc, left, many, rfl, B, TT, hk, gk, rfl, Lo, go, rfl, Lr, good, l60, rfl, D, out1, out2, k⟩ := h
    have few := D.few
    have mle := D.le
    refine ⟨_, rfl, sd, _, rfl, SqL.of D.el, rfl, _, _, rfl, _, _, rfl, _, _, rfl, rfl, ?_⟩
    refine ⟨_, rfl, a, l, _, rfl, rfl, by decide, by decide, B, fun way H1 w0 w6 B1 k1 => ?_⟩
    have t1 := B.tup k1
    have N1 := ButN.of k1
    have hk1 := hk.mono t1
    have Lo1 := Lo.keepN TurnAt.st t1 N1 (out2 _ (by simp))
    have Lr1 := Lr.keepN RowAt.st t1 N1 (out2 _ (by simp))
    have D1 := D.keepN t1 N1 fun b hb => out2 b (by
      simp only [List.mem_cons, List.not_mem_nil, or_false] at hb ⊢
      rcases hb with rfl | rfl | rfl | rfl | rfl | rfl <;> simp)
    have T1 := tabs_but TT k1 B.free
    have off1 : ∀ b ∈ [sd, ll, ps, pr, lo2, lc], b ∉ [a, l] := fun b hb => out2 b (by
      simp only [List.mem_cons, List.not_mem_nil, or_false] at hb ⊢
      rcases hb with rfl | rfl | rfl | rfl | rfl | rfl <;> simp)
    have wide : ∀ {H' : Hp}, ButN [a, l] H H' → ButN ([a, l] ++ sdF sd ll ps lc) H H' := fun n => n.wide fun x hx => List.mem_append_left _ hx
    have restB : (tSeq (tIfS (tTest (tOpC rEq (tVar 8) (.int 5))) (tSeq (tAsg (tCall (sp_law_bad_row K) [] E (tCons (tVar 0) (tCons (tVar 1) (tCons (tCB1 (xTuple K) (tLc (iTup K (tVar 1)) (gName 10) tYes (tCall (sp_law_value K) [] E0 (tCons (tVar 0) (tCons (tVar 10) tNil))) [10])) tNil)))) (gName 9)) (tRet (tAllC LS [ (0, fun E => (tMeth (He.ga K "Sieve") "put" (sp_Sieve_putX K) [] E (tVar 5) (tCons (tVar 9) tNil))) ] (t_law_all K) N_law_all (tCons (tLst (tCons (tLamM (tabs Lms_k01 K) LS 0) tNil)) (tCons (tTup (tConsC (.str "BadRows") (tConsC (.int 0) tNil))) tNil))))) tNext) (tSeq (tIfS (tTest (tOp (xEqE K) (tVar 6) (tLst tNil))) (tRet (tAllC LS [ (1, fun E => (tMeth (He.ga K "Sieve") "take" (sp_Sieve_takeX K) [] E (tVar 5) tNil)) ] (t_law_all K) N_law_all (tCons (tLst (tCons (tLamM (tabs Lms_k01 K) LS 1) tNil)) (tCons (tTup (tConsC (.str "Empty") (tConsC (.int 0) tNil))) tNil)))) tNext) (tRet (tCall (sp_law_alike K) [] E (tCons (tMeth (He.ga K "Sieve") "take" (sp_Sieve_takeX K) [] E (tVar 5) tNil) (tCons (tBM K "list" rPopAt (tVar 6) (tConsC (.int 0) tNil)) tNil)))))) { nx := fun _ H' => Q .non H', rt := Q } [some (.ref a), some kv, some (.ref lo), some (.ref lr), some (.ref sd), some (.ref ps), some (.ref ll), some (.int (many : Int)), some (.int way), none, none] H1 := by
      refine ⟨_, rfl, rfl, _, rfl, ?_⟩
      by_cases w5 : way = 5
      · rw [decide_eq_true (show V.int way = V.int 5 by rw [w5])]
        obtain ⟨kt, rfl, ekt⟩ := hk1
        refine ⟨_, rfl, _, rfl, ?_⟩
        dsimp only [tCons, tCB1]
        refine newRow (i := 1) (j := 10) rfl rfl (by decide) (Nat.lt_succ_self 10) B1 ekt gk fun D2 r H2 hD2 e2 gr B2 k2 => ⟨_, _, rfl, .inl ⟨SqL.of e2, fun t ht => ?_⟩⟩
        have s3 : Same H2 (upd H2 t (.tup (r.map kV))) := Rs.Same.new ht
        have rt : RowAt (upd H2 t (.tup (r.map kV))) (.ref t) r := ⟨t, rfl, upd_same⟩
        generalize upd H2 t (.tup (r.map kV)) = H3 at s3 rt ⊢
        have k13 : But [a, l] H1 H3 := k2.trans (But.same s3)
        have t13 := B1.tup k13
        refine ⟨a, l, ks, r, rfl, B2.same s3, IsTp.mono t13 ⟨kt, rfl, ekt⟩, gk, rt, gr, fun v x H4 rv sz bad B4 k4 => ?_⟩
        have k04 := (k1.trans k13).trans k4
        have t04 := B.tup k04
        have D4 := D.keepN t04 (ButN.of k04) off1
        have T4 := tabs_but TT k04 B.free
        refine one_err T4 rfl (fun H5 R r => r) (fun H5 Qn e5 told => ?_) (fun H5 e5 T5 => ?_)
        · have D5 := D4.keepN (extN_tup e5) (ButN.ext (F := []) e5) (fun _ _ z => nomatch z)
          obtain ⟨cs, S5, hh, pm⟩ := D5.S
          obtain ⟨dx, hob⟩ := S5.ob
          have fn := D.fine good
          have rowsc := cells_row (ks := ks) pm (fun q hq => fn.row q (by rw [List.append_nil] at hq; exact hq))
          have lcs := pm.length_eq
          rw [cells_len] at lcs
          refine ⟨_, rfl, ps, dx, _, rfl, hob, no_Sieve_put, _, rfl, ps, _, pr, lo2, lc, ks, o, cs, _, x, rfl, S5, rv.mono (extN_tup e5), sz, gk.le, go.col, rowsc, hh, by rw [lcs, List.length_nil]; omega, (fun _ d H6 hd s6 => ?_), fun z => by rw [bad] at z; exact nomatch z⟩
          exact rErr_place2 eBadRows mBadRows (.inl rfl) (by decide) upd_same fun u H7 hu s7 e7 => told u H7 (s6.trans ((Rs.Same.new hd).trans s7)) e7
        · exact k ll left many H5 (D4.keepN (extN_tup e5) (ButN.ext (F := []) e5) (fun _ _ z => nomatch z)) (.inl rfl) (B4.extN e5) T5 (wide ((ButN.of k04).trans (ButN.ext e5)))
      rw [decide_eq_false (show ¬ V.int way = V.int 5 from fun z => w5 (by injection z))]
      obtain ⟨lv, el, pl⟩ := id D1.L
      have lpl := pl.length
      refine ⟨_, rfl, sz0, fun z hz => eqE el hz (b := lv.isEmpty) rfl ⟨_, rfl, ?_⟩⟩
      have s2 : Same H1 (upd H1 z (.lst [])) := Rs.Same.new hz
      generalize upd H1 z (.lst []) = H2 at s2 ⊢
      have k02 := k1.trans (But.same (S := [a, l]) s2)
      have t02 := B.tup k02
      have D2 := D.keepN t02 (ButN.of k02) off1
      have T2 := tabs_but TT k02 B.free
      have B2 := B1.same s2
      have fn := D.fine good
      cases lv with
      | nil =>
        have e0 : left = [] := List.eq_nil_of_length_eq_zero lpl.symm
        refine one_err T2 rfl (fun H5 R r => r) (fun H5 Qn e5 told => ?_) (fun H5 e5 T5 => ?_)
        · have D5 := D2.keepN (extN_tup e5) (ButN.ext (F := []) e5) (fun _ _ z => nomatch z)
          obtain ⟨cs, S5, hh, pm⟩ := D5.S
          have cs0 : cs = [] := by
            rw [e0] at pm
            exact List.Perm.eq_nil pm
          obtain ⟨dx, hob⟩ := S5.ob
          refine ⟨_, rfl, ps, dx, _, rfl, hob, no_Sieve_take, ps, _, pr, lo2, lc, ks, o, cs, _, rfl, S5, go.col, (fun c hc => by rw [cs0] at hc; exact nomatch hc), hh, by rw [cs0]; decide, (fun _ => ?_), fun z => by rw [cs0] at z; exact absurd z (by decide)⟩
          exact rErr_plain eEmpty (by decide) fun u H7 hu s7 e7 => told u H7 s7 e7
        · exact k ll left many H5 (D2.keepN (extN_tup e5) (ButN.ext (F := []) e5) (fun _ _ z => nomatch z)) (.inl rfl) (B2.extN e5) T5 (wide ((ButN.of k02).trans (ButN.ext e5)))
      | cons v0 lv =>
        obtain ⟨p0, left', rfl⟩ : ∃ p l, left = p :: l := by
          cases left with
          | nil => exact nomatch lpl
          | cons p l => exact ⟨p, l, rfl⟩
        obtain ⟨cs, S2, hh, pm⟩ := D2.S
        obtain ⟨dx, hob⟩ := S2.ob
        have rowsc := cells_row (ks := ks) pm (fun q hq => fn.row q (by rw [List.append_nil] at hq; exact hq))
        have lcs := pm.length_eq
        rw [cells_len] at lcs
        obtain ⟨hc0, top⟩ := cells_min go.col (by rw [List.append_nil]; exact fn) pm hh (fun z => nomatch z)
        have emn : mn o (p0 :: left') = p0 := by
          refine (mn_eq go.col fn (List.mem_cons_self ..) fun y hy => ?_).symm
          rcases List.mem_cons.mp hy with e | e
          · rw [e]; exact before_irrefl o _
          · have b1 := List.rel_of_pairwise_cons D.up e
            cases hb : before o y p0 with
            | false => rfl
            | true =>
              have r1 := fn.row y hy
              have r2 := fn.row p0 (List.mem_cons_self ..)
              have t := before_trans o (cmp_of go.col r2 r1) (cmp_of go.col r1 r2) b1 hb
              rw [before_irrefl] at t
              cases t
        rw [emn] at top
        refine ⟨_, rfl, ps, dx, _, rfl, hob, no_Sieve_take, ps, _, pr, lo2, lc, ks, o, cs, _, rfl, S2, go.col, rowsc, hh, by rw [lcs, List.length_nil]; omega, (fun z => by rw [z] at hc0; exact absurd hc0 (by decide)), fun _ cs' v H3 S3 hh3 pm3 hv k3 => ?_⟩
        rw [top] at hv pm3
        have t23 := S2.tup (k3.wide fun x hx => by rw [List.mem_singleton] at hx; subst hx; simp)
        obtain ⟨lv2, el2, pl2⟩ := id D2.L
        have el3 := k3 _ _ el2 (ne1 D.n3)
        have pl3 := Paired.tl PairAt.st t23 pl2
        obtain ⟨v1, lv3, e3⟩ : ∃ v l, lv2 = v :: l := by
          cases lv2 with
          | nil => cases pl2
          | cons v l => exact ⟨v, l, rfl⟩
        subst e3
        refine ⟨_, rfl, .inl ⟨rfl, _, SqL.of el3⟩, ll, _, _, 0, v1, rfl, rfl, el3, by decide, by decide, seqIx (Nat.zero_lt_succ _), rfl, ?_⟩
        have pl3' := pl3
        obtain ⟨hv1, pl4⟩ : PairAt H3 v1 p0 ∧ Paired (PairAt H3) lv3 left' := by
          cases pl3' with
          | cons a b => exact ⟨a, b⟩
        have t34 : TupLe H3 (upd H3 ll (.lst lv3)) := (TupLe.refl _).list el3
        have kll : But [ll] H3 (upd H3 ll (.lst lv3)) := (But.refl _ _).put (by simp)
        have okP : okD 3 (pairD p0) := pair_ok (fn.row p0 (List.mem_cons_self ..)) (by have := gk.le; omega) 0
        have kF : But (sdF sd ll ps lc) H2 (upd H3 ll (.lst lv3)) := (k3.wide fun x hx => by rw [List.mem_singleton] at hx; subst hx; simp).trans (kll.wide fun x hx => by rw [List.mem_singleton] at hx; subst hx; simp)
        refine ⟨pairD p0, okP.a.to (by decide), pair_dp (PairAt.st _ _ _ _ t34 hv), pair_dp (PairAt.st _ _ _ _ t34 hv1), ?_⟩
        obtain ⟨dx3, ob3⟩ := S3.ob
        obtain ⟨dr3, obr3⟩ := S3.room.ob
        refine k ll left' many _ ⟨up (k3 _ _ D2.el (ne1 D.n2)) D.n1, ⟨lv3, upd_same, Paired.tl PairAt.st t34 pl4⟩, ⟨cs', S3.keepBut t34 kll (fun b hb => ?_), hh3, ?_⟩, (List.pairwise_cons.mp D.up).2, fun p hp => D.fr p (List.mem_cons_of_mem _ hp), (List.nodup_cons.mp D.nd).2, D.le, by have := D.few; rw [List.length_cons] at this; omega, D.n1, D.n2, D.n3, D.n4, D.n5⟩ (.inl rfl) (B2.keep (fun o e => kF _ _ e (out1 _ (by simp))) fun o e => kF _ _ e (out1 _ (by simp))) (tabs_but T2 kF D2.free)
          ((wide (ButN.of k02)).trans (ButN.of (kF.wide fun x hx => List.mem_append_right _ hx)))
        · refine ne1 ?_
          rcases hb with rfl | rfl | rfl | rfl
          · exact ne_of ob3 el3 (by intro z; cases z)
          · exact ne_of obr3 el3 (by intro z; cases z)
          · exact D.n5
          · exact D.n3.symm
        · have q := pm3.trans pm
          exact q.cons_inv
    obtain ⟨rv, er, pr1⟩ := id Lr1
    have lrv := pr1.length
    refine ⟨_, rfl, _, _, rfl, rfl, _, rfl, ?_⟩
    by_cases w3 : way < 3
    · dsimp only
      rw [decide_eq_true w3]
      refine ⟨_, rfl, _, rfl, lenL er rfl ⟨_, _, rfl, rfl, _, rfl, ?_⟩⟩
      by_cases hm : many < rows.length
      · have e : decide ((many : Int) < (rv.length : Int)) = true := decide_eq_true (by omega)
        dsimp only
        rw [e]
        have hrow : rows[many]? = some rows[many] := List.getElem?_eq_getElem hm
        generalize rows[many] = row at hrow
        have grow := good _ (List.mem_of_getElem? hrow)
        obtain ⟨rw1, hrv, hra⟩ := P2.get' pr1 hrow
        obtain ⟨lv, el, pl⟩ := id D1.L
        have lpl := pl.length
        refine ⟨_, rfl, _, rfl, _, rfl, _, rfl, _, rfl, ixL er (j := many) rfl hrv ⟨szle (by show 2 ≤ 100000; decide), fun t ht => ⟨szle (by show 1 ≤ 100000; decide), fun q hq => ?_⟩⟩⟩
        have s2 : Same H1 (upd H1 t (.tup [.int (many : Int), rw1])) := Rs.Same.new ht
        have et : upd H1 t (.tup [.int (many : Int), rw1]) t = some (.tup [.int (many : Int), rw1]) := upd_same
        generalize upd H1 t (.tup [.int (many : Int), rw1]) = H2 at s2 et hq ⊢
        have s3 : Same H2 (upd H2 q (.lst [.ref t])) := Rs.Same.new hq
        have eq : upd H2 q (.lst [.ref t]) q = some (.lst [.ref t]) := upd_same
        have et3 := s3 _ _ et
        generalize upd H2 q (.lst [.ref t]) = H3 at s3 eq et3 ⊢
        have s13 := s2.trans s3
        refine ⟨ll, q, lv, _, rfl, rfl, s13 _ _ el, eq, szle (by show lv.length + 1 ≤ 100000; omega), fun f hf => ?_⟩
        have s4 : Same H3 (upd H3 f (.lst (lv ++ [.ref t]))) := Rs.Same.new hf
        have s14 := s13.trans s4
        have Lf : Lst PairAt (upd H3 f (.lst (lv ++ [.ref t]))) f (left ++ [((many : Int), row)]) := ⟨_, upd_same, P2.app (Paired.tl PairAt.st (TupLe.same s14) pl) (P2.one ⟨rw1, ⟨t, rfl, s4 _ _ et3⟩, RowAt.st _ _ _ _ (TupLe.same s14) hra⟩)⟩
        generalize upd H3 f (.lst (lv ++ [.ref t])) = H4 at s4 s14 Lf ⊢
        have fn := D.fine good
        have nin : ∀ p ∈ left, p.1 ≠ (many : Int) := fun p hp e => by
          obtain ⟨i, hi, e2, _⟩ := D.fr p hp
          omega
        have fn2 : Fine ks (left ++ [((many : Int), row)]) := ⟨fun p hp => by
          rcases List.mem_append.mp hp with h | h
          · exact fn.row p h
          · rw [List.mem_singleton.mp h]; exact grow, by
          rw [List.map_append]
          refine List.nodup_append.mpr ⟨fn.nd, by simp, fun x hx y hy e => ?_⟩
          obtain ⟨p, hp, rfl⟩ := List.mem_map.mp hx
          rw [List.mem_singleton.mp hy] at e
          exact nin p hp e⟩
        refine ⟨ks, o, left ++ [((many : Int), row)], ⟨lo, rfl, Lo1.same TurnAt.st s14⟩, ⟨f, rfl, Lf⟩, go.col, fn2, by rw [List.length_append, List.length_singleton]; omega, fun g ys H5 hg Lg py uy s5 => ?_⟩
        have s15 := s14.trans s5
        have D5 := D1.keepN (TupLe.same s15) (ButN.same (F := []) s15) (fun _ _ z => nomatch z)
        have hg1 := s14.free hg
        refine ⟨_, rfl, sd, _, 1, 1, rfl, rfl, D5.el, rfl, ?_⟩
        have b6 : But [sd] H5 (upd H5 sd (.lst ([V.ref ps, .ref ll, .int (many : Int)].set 1 (.ref g)))) := (But.refl _ _).put (by simp)
        have e6 : upd H5 sd (.lst ([V.ref ps, .ref ll, .int (many : Int)].set 1 (.ref g))) sd = some (.lst [V.ref ps, .ref g, .int (many : Int)]) := upd_same
        have t6 : TupLe H5 (upd H5 sd (.lst ([V.ref ps, .ref ll, .int (many : Int)].set 1 (.ref g)))) := (TupLe.refl _).list D5.el
        generalize upd H5 sd (.lst ([V.ref ps, .ref ll, .int (many : Int)].set 1 (.ref g))) = H6 at b6 e6 t6 ⊢
        refine ⟨_, rfl, _, _, rfl, rfl, _, rfl, sd, _, 2, 2, rfl, rfl, e6, rfl, ?_⟩
        have b7 : But [sd] H6 (upd H6 sd (.lst ([V.ref ps, .ref g, .int (many : Int)].set 2 (.int ((many : Int) + 1))))) := (But.refl _ _).put (by simp)
        have e7 : upd H6 sd (.lst ([V.ref ps, .ref g, .int (many : Int)].set 2 (.int ((many : Int) + 1)))) sd = some (.lst [V.ref ps, .ref g, .int (((many + 1 : Nat)) : Int)]) := upd_same
        have t7 : TupLe H6 (upd H6 sd (.lst ([V.ref ps, .ref g, .int (many : Int)].set 2 (.int ((many : Int) + 1))))) := (TupLe.refl _).list e6
        generalize upd H6 sd (.lst ([V.ref ps, .ref g, .int (many : Int)].set 2 (.int ((many : Int) + 1)))) = H7 at b7 e7 t7 ⊢
        have b57 := b6.trans b7
        have t57 := t6.trans t7
        obtain ⟨cs, S5, hh, pm⟩ := D5.S
        obtain ⟨dx5, ob5⟩ := S5.ob
        obtain ⟨dr5, obr5⟩ := S5.room.ob
        have S7 := S5.keepBut t57 b57 fun b hb => ne1 (by
          rcases hb with rfl | rfl | rfl | rfl
          · exact ne_of ob5 D5.el (by intro z; cases z)
          · exact ne_of obr5 D5.el (by intro z; cases z)
          · exact D.n4
          · exact D.n2.symm)
        obtain ⟨dx, hob⟩ := S7.ob
        have nlr : lr ≠ sd := fun z => out1 lr (by simp) (by rw [z]; simp)
        have er7 := b57 _ _ (s15 _ _ er) (ne1 nlr)
        have hra7 := RowAt.st _ _ _ _ ((TupLe.same s15).trans t57) hra
        have rowsc := cells_row (ks := ks) pm (fun q hq => fn.row q (by rw [List.append_nil] at hq; exact hq))
        have lcs := pm.length_eq
        rw [cells_len] at lcs
        refine ⟨_, rfl, ps, dx, _, rfl, hob, no_Sieve_put, _, rfl, _, rfl, ixL er7 (j := many) rfl hrv ⟨ps, _, pr, lo2, lc, ks, o, cs, _, row, rfl, S7, hra7, RowSz.of grow gk.le, gk.le, go.col, rowsc, hh, by rw [lcs, List.length_nil]; omega, (fun z => by rw [grow] at z; exact nomatch z), fun _ cs' H8 S8 hh8 pm8 k8 => ⟨_, rfl, .int (many : Int), trivial, .int _, .int _, ?_⟩⟩⟩
        have t78 := S7.tup k8
        have Lg7 : Lst PairAt H7 g ys := Lg.keepN PairAt.st t57 (ButN.of b57) (ne1 (fun z => by rw [z] at hg; have := s14 _ _ D1.el; rw [hg] at this; cases this))
        have gsd : g ≠ sd := fun z => by
          rw [z] at hg1
          rw [D1.el] at hg1
          cases hg1
        have gps : g ≠ ps := fun z => by
          obtain ⟨c1, S1, _⟩ := D1.S
          obtain ⟨_, o1⟩ := S1.ob
          rw [z, o1] at hg1
          cases hg1
        have glc : g ≠ lc := fun z => by
          obtain ⟨c1, S1, _⟩ := D1.S
          obtain ⟨_, o1, _⟩ := S1.room.cells
          rw [z, o1] at hg1
          cases hg1
        have glo : lo2 ≠ g := fun z => by
          obtain ⟨c1, S1, _⟩ := D1.S
          obtain ⟨_, o1, _⟩ := S1.room.ord
          rw [← z, o1] at hg1
          cases hg1
        have kF : But (sdF sd ll ps lc) H1 H8 := (But.same s15).trans ((b57.wide fun x hx => by rw [List.mem_singleton] at hx; subst hx; simp).trans (k8.wide fun x hx => by
          simp only [List.mem_cons, List.not_mem_nil, or_false] at hx ⊢
          rcases hx with rfl | rfl <;> simp))
        have psd : sd ≠ ps := fun z => by
          rw [← z] at ob5
          rw [D5.el] at ob5
          cases ob5
        refine k g ys (many + 1) H8 ⟨k8 _ _ e7 (nn psd D.n2), Lg7.keepN PairAt.st t78 (ButN.of k8) (nn gps glc), ⟨cs', by rw [Int.natCast_add]; exact S8, hh8, ?_⟩, uy, fun p hp => ?_, (py.map (·.1)).nodup_iff.mpr fn2.nd, hm, ?_, fun z => gsd z.symm, D.n2, glc, D.n4, glo⟩ (.inr (none_of_but k1 hg1 fun z => B1.fresh hg1 z)) (B1.keep (fun o e => kF _ _ e (out1 _ (by simp))) fun o e => kF _ _ e (out1 _ (by simp))) (tabs_but T1 kF D1.free)
          ((wide (ButN.of k1)).trans (ButN.of (kF.wide fun x hx => List.mem_append_right _ hx)))
        · refine pm8.trans ?_
          refine (pm.cons _).trans ?_
          unfold cells
          rw [List.map_nil, List.append_nil, List.append_nil]
          refine List.Perm.trans ?_ (py.map fun q => ((0 : Int), q)).symm
          rw [List.map_append]
          exact (List.perm_append_comm (l₁ := [((0 : Int), ((many : Int), row))]))
        · rcases List.mem_append.mp (py.mem_iff.mp hp) with h | h
          · obtain ⟨i, hi, e1, e2⟩ := D.fr p h
            exact ⟨i, by omega, e1, e2⟩
          · rw [List.mem_singleton.mp h]
            exact ⟨many, by omega, rfl, hrow⟩
        · rw [py.length_eq, List.length_append, List.length_singleton]
          have := D.few
          omega
      · have e : decide ((many : Int) < (rv.length : Int)) = false := decide_eq_false (by omega)
        dsimp only
        rw [e]
        exact restB
    · dsimp only
      rw [decide_eq_false w3]
      exact restB
end Rs

namespace Rs
open PySem PySem.Spec PyProof.Rows L2
open LamX
structure SA where
  sd : Addr
  ll : Addr
  ps : Addr
  pr : Addr
  lo : Addr
  lc : Addr
def SA.all (s : SA) : List Addr := [s.sd, s.ll, s.ps, s.pr, s.lo, s.lc]
abbrev SdA (K : PySem.W.Frag) (H : Hp) (kv : V) (ks : List Str) (o : Ord) (rows : List Row) (s : SA) (left : List Pr) (many : Nat) : Prop := Sd K H kv ks o rows s.sd s.ll s.ps s.pr s.lo s.lc left many
section
variable {K : PySem.W.Frag} {H H' : Hp} {kv : V} {ks : List Str} {o : Ord} {rows : List Row} {sd ll ps pr lo lc : Addr} {left : List Pr} {many : Nat}
theorem Sd.there (D : Sd K H kv ks o rows sd ll ps pr lo lc left many) : ∀ x ∈ [sd, ll, ps, pr, lo, lc], H x ≠ none := fun x hx e => by
  obtain ⟨cs, S, _⟩ := D.S
  obtain ⟨dx, ep⟩ := S.ob
  obtain ⟨dr, epr⟩ := S.room.ob
  obtain ⟨vs, el, _⟩ := D.L
  obtain ⟨us, ec, _⟩ := S.room.cells
  obtain ⟨ws, eo, _⟩ := S.room.ord
  simp only [List.mem_cons, List.not_mem_nil, or_false] at hx
  rcases hx with rfl | rfl | rfl | rfl | rfl | rfl
  · rw [D.el] at e; cases e
  · rw [el] at e; cases e
  · rw [ep] at e; cases e
  · rw [epr] at e; cases e
  · rw [eo] at e; cases e
  · rw [ec] at e; cases e
theorem Sd.take1 {p0 : Pr} {left' : List Pr} {R : VK} {E : XK} (D : Sd K H kv ks o rows sd ll ps pr lo lc (p0 :: left') many) (good : ∀ r ∈ rows, isRow ks r = true) (gk : GoodKinds ks) (go : GoodOrd ks o) (l60 : rows.length ≤ 60)
    (k : ∀ v H3 v1 lv3, H3 ll = some (.lst (v1 :: lv3)) → H3 sd = some (.lst [.ref ps, .ref ll, .int (many : Int)]) → Dp K (upd H3 ll (.lst lv3)) v (pairD p0) → Dp K (upd H3 ll (.lst lv3)) v1 (pairD p0) → okD 3 (pairD p0) → Sd K (upd H3 ll (.lst lv3)) kv ks o rows sd ll ps pr lo lc left' many →
      But (sdF sd ll ps lc) H (upd H3 ll (.lst lv3)) → R v H3) : sp_Sieve_takeX K [.ref ps] H R E := by
  obtain ⟨cs, S2, hh, pm⟩ := D.S
  have fn := D.fine good
  have few := D.few
  have le := D.le
  have rowsc := cells_row (ks := ks) pm (fun q hq => fn.row q (by rw [List.append_nil] at hq; exact hq))
  have lcs := pm.length_eq
  rw [cells_len] at lcs
  obtain ⟨hc0, top⟩ := cells_min go.col (by rw [List.append_nil]; exact fn) pm hh (fun z => nomatch z)
  have emn : mn o (p0 :: left') = p0 := by
    refine (mn_eq go.col fn (List.mem_cons_self ..) fun y hy => ?_).symm
    rcases List.mem_cons.mp hy with e | e
    · rw [e]; exact before_irrefl o _
    · have b1 := List.rel_of_pairwise_cons D.up e
      cases hb : before o y p0 with
      | false => rfl
      | true =>
        have r1 := fn.row y hy
        have r2 := fn.row p0 (List.mem_cons_self ..)
        have t := before_trans o (cmp_of go.col r2 r1) (cmp_of go.col r1 r2) b1 hb
        rw [before_irrefl] at t
        cases t
  rw [emn] at top
  refine ⟨ps, _, pr, lo, lc, ks, o, cs, _, rfl, S2, go.col, rowsc, hh, by rw [lcs, List.length_nil]; omega, (fun z => by rw [z] at hc0; exact absurd hc0 (by decide)), fun _ cs' v H3 S3 hh3 pm3 hv k3 => ?_⟩
  rw [top] at hv pm3
  have t23 := S2.tup (k3.wide fun x hx => by rw [List.mem_singleton] at hx; subst hx; simp)
  obtain ⟨lv2, el2, pl2⟩ := id D.L
  have el3 := k3 _ _ el2 (ne1 D.n3)
  have pl3 := Paired.tl PairAt.st t23 pl2
  obtain ⟨v1, lv3, e3⟩ : ∃ v l, lv2 = v :: l := by
    cases lv2 with
    | nil => cases pl2
    | cons v l => exact ⟨v, l, rfl⟩
  subst e3
  obtain ⟨hv1, pl4⟩ : PairAt H3 v1 p0 ∧ Paired (PairAt H3) lv3 left' := by
    cases pl3 with
    | cons a b => exact ⟨a, b⟩
  have t34 : TupLe H3 (upd H3 ll (.lst lv3)) := (TupLe.refl _).list el3
  have kll : But [ll] H3 (upd H3 ll (.lst lv3)) := (But.refl _ _).put (by simp)
  have okP : okD 3 (pairD p0) := pair_ok (fn.row p0 (List.mem_cons_self ..)) (by have := gk.le; omega) 0
  have kF : But (sdF sd ll ps lc) H (upd H3 ll (.lst lv3)) := (k3.wide fun x hx => by rw [List.mem_singleton] at hx; subst hx; simp).trans (kll.wide fun x hx => by rw [List.mem_singleton] at hx; subst hx; simp)
  obtain ⟨dx3, ob3⟩ := S3.ob
  obtain ⟨dr3, obr3⟩ := S3.room.ob
  have esd := k3 _ _ D.el (ne1 D.n2)
  refine k v H3 v1 lv3 el3 esd (pair_dp (PairAt.st _ _ _ _ t34 hv)) (pair_dp (PairAt.st _ _ _ _ t34 hv1)) okP ⟨Rs.up esd D.n1, ⟨lv3, upd_same, Paired.tl PairAt.st t34 pl4⟩, ⟨cs', S3.keepBut t34 kll (fun b hb => ?_), hh3, ?_⟩, (List.pairwise_cons.mp D.up).2, fun p hp => D.fr p (List.mem_cons_of_mem _ hp), (List.nodup_cons.mp D.nd).2, D.le, by rw [List.length_cons] at few; omega, D.n1, D.n2, D.n3, D.n4, D.n5⟩ kF
  · refine ne1 ?_
    rcases hb with rfl | rfl | rfl | rfl
    · exact ne_of ob3 el3 (by intro z; cases z)
    · exact ne_of obr3 el3 (by intro z; cases z)
    · exact D.n5
    · exact D.n3.symm
  · have q := pm3.trans pm
    exact q.cons_inv
end
structure Two (K : PySem.W.Frag) (H : Hp) (kv : V) (ks : List Str) (o : Ord) (rows : List Row) (a l lo lr p4 : Addr) (s t : SA) : Prop where
  d0 : ∃ left many, SdA K H kv ks o rows s left many
  d1 : ∃ left many, SdA K H kv ks o rows t left many
  ap : ∀ x ∈ s.all, x ∉ t.all
  oa : ∀ x ∈ s.all, x ∉ [a, l, lo, lr, p4]
  ob : ∀ x ∈ t.all, x ∉ [a, l, lo, lr, p4]
  oo : ∀ x ∈ [lo, lr, p4], x ∉ [a, l]
  B : Box H a l
  T : Tabs (tabs Lms_k01 K) H
  Lo : Lst TurnAt H lo o
  Lr : Lst RowAt H lr rows
  hk : KindsAt H kv ks
theorem Two.swap {K : PySem.W.Frag} {H : Hp} {kv : V} {ks : List Str} {o : Ord} {rows : List Row} {a l lo lr p4 : Addr} {s t : SA} (W : Two K H kv ks o rows a l lo lr p4 s t) : Two K H kv ks o rows a l lo lr p4 t s :=
  ⟨W.d1, W.d0, fun x hx hy => W.ap x hy hx, W.ob, W.oa, W.oo, W.B, W.T, W.Lo, W.Lr, W.hk⟩
theorem Two.deed {K : PySem.W.Frag} {H H' : Hp} {kv : V} {ks : List Str} {o : Ord} {rows : List Row} {a l lo lr p4 : Addr} {s t : SA} {ll' : Addr} {left' : List Pr} {many' : Nat} {w : List V} (W : Two K H kv ks o rows a l lo lr p4 s t) (e4 : H p4 = some (.lst w))
    (D : Sd K H' kv ks o rows s.sd ll' s.ps s.pr s.lo s.lc left' many') (hl : ll' = s.ll ∨ H ll' = none) (B' : Box H' a l) (T' : Tabs (tabs Lms_k01 K) H') (k : ButN ([a, l] ++ sdF s.sd s.ll s.ps s.lc) H H') :
    Two K H' kv ks o rows a l lo lr p4 { s with ll := ll' } t ∧ H' p4 = some (.lst w) := by
  obtain ⟨L0, m0, D0⟩ := W.d0
  obtain ⟨L1, m1, D1⟩ := W.d1
  have t' : TupLe H H' := k.tup fun x hx xs e => by
    rcases List.mem_append.mp hx with h | h
    · obtain ⟨_, _, e1, e2, _⟩ := W.B.ex
      simp only [List.mem_cons, List.not_mem_nil, or_false] at h
      rcases h with rfl | rfl
      · rw [e1] at e; cases e
      · rw [e2] at e; cases e
    · exact D0.noTup x h xs e
  have sub : ∀ x ∈ sdF s.sd s.ll s.ps s.lc, x ∈ s.all := fun x hx => by
    simp only [SA.all, List.mem_cons, List.not_mem_nil, or_false] at hx ⊢
    rcases hx with rfl | rfl | rfl | rfl <;> simp
  have new : ∀ x ∈ ({ s with ll := ll' } : SA).all, x ∈ s.all ∨ H x = none := fun x hx => by
    simp only [SA.all, List.mem_cons, List.not_mem_nil, or_false] at hx ⊢
    rcases hx with rfl | rfl | rfl | rfl | rfl | rfl
    · exact .inl (.inl rfl)
    · rcases hl with h | h
      · exact .inl (.inr (.inl h))
      · exact .inr h
    · exact .inl (.inr (.inr (.inl rfl)))
    · exact .inl (.inr (.inr (.inr (.inl rfl))))
    · exact .inl (.inr (.inr (.inr (.inr (.inl rfl)))))
    · exact .inl (.inr (.inr (.inr (.inr (.inr rfl)))))
  have nF : ∀ x ∈ [lo, lr, p4], x ∉ [a, l] ++ sdF s.sd s.ll s.ps s.lc := fun x hx hm => by
    rcases List.mem_append.mp hm with h | h
    · exact W.oo x hx h
    · refine W.oa x (sub x h) ?_
      simp only [List.mem_cons, List.not_mem_nil, or_false] at hx ⊢
      rcases hx with rfl | rfl | rfl <;> simp
  have there : ∀ x ∈ [a, l, lo, lr, p4], H x ≠ none := fun x hx e => by
    obtain ⟨_, _, e1, e2, _⟩ := W.B.ex
    obtain ⟨_, e3, _⟩ := W.Lo
    obtain ⟨_, e5, _⟩ := W.Lr
    simp only [List.mem_cons, List.not_mem_nil, or_false] at hx
    rcases hx with rfl | rfl | rfl | rfl | rfl
    · rw [e1] at e; cases e
    · rw [e2] at e; cases e
    · rw [e3] at e; cases e
    · rw [e5] at e; cases e
    · rw [e4] at e; cases e
  refine ⟨⟨⟨left', many', D⟩, ⟨L1, m1, D1.keepN t' k fun b hb hm => ?_⟩, fun x hx hy => ?_, fun x hx hm => ?_, W.ob, W.oo, B', T', W.Lo.keepN TurnAt.st t' k (nF _ (by simp)), W.Lr.keepN RowAt.st t' k (nF _ (by simp)), W.hk.mono t'⟩, k.lst e4 (nF _ (by simp))⟩
  · rcases List.mem_append.mp hm with h | h
    · refine W.ob b hb ?_
      simp only [List.mem_cons, List.not_mem_nil, or_false] at h ⊢
      rcases h with rfl | rfl <;> simp
    · exact W.ap b (sub b h) hb
  · rcases new x hx with h | h
    · exact W.ap x h hy
    · exact D1.there x hy h
  · rcases new x hx with h | h
    · exact W.oa x h hm
    · exact there x hm h
theorem Two.same {K : PySem.W.Frag} {H H' : Hp} {kv : V} {ks : List Str} {o : Ord} {rows : List Row} {a l lo lr p4 : Addr} {s t : SA} (W : Two K H kv ks o rows a l lo lr p4 s t) (k : Same H H') : Two K H' kv ks o rows a l lo lr p4 s t := by
  obtain ⟨L0, m0, D0⟩ := W.d0
  obtain ⟨L1, m1, D1⟩ := W.d1
  exact ⟨⟨L0, m0, D0.keepN (TupLe.same k) (ButN.same (F := []) k) fun _ _ z => nomatch z⟩, ⟨L1, m1, D1.keepN (TupLe.same k) (ButN.same (F := []) k) fun _ _ z => nomatch z⟩, W.ap, W.oa, W.ob, W.oo, W.B.same k, tabs_same W.T k, W.Lo.same TurnAt.st k, W.Lr.same RowAt.st k, W.hk.mono (TupLe.same k)⟩
theorem Two.took {K : PySem.W.Frag} {H H' : Hp} {kv : V} {ks : List Str} {o : Ord} {rows : List Row} {a l lo lr p4 : Addr} {s t : SA} (W : Two K H kv ks o rows a l lo lr p4 s t) (k : But [a, l] H H') (B' : Box H' a l) : Two K H' kv ks o rows a l lo lr p4 s t := by
  obtain ⟨L0, m0, D0⟩ := W.d0
  obtain ⟨L1, m1, D1⟩ := W.d1
  have t' := W.B.tup k
  have n : ∀ {s : SA}, (∀ x ∈ s.all, x ∉ [a, l, lo, lr, p4]) → ∀ x ∈ s.all, x ∉ [a, l] := fun h x hx hm => h x hx (by
    simp only [List.mem_cons, List.not_mem_nil, or_false] at hm ⊢
    rcases hm with rfl | rfl <;> simp)
  exact ⟨⟨L0, m0, D0.keepN t' (ButN.of k) (n W.oa)⟩, ⟨L1, m1, D1.keepN t' (ButN.of k) (n W.ob)⟩, W.ap, W.oa, W.ob, W.oo, B', tabs_but W.T k W.B.free, Lst.but TurnAt.st W.B k W.Lo (W.oo _ (by simp)), Lst.but RowAt.st W.B k W.Lr (W.oo _ (by simp)), W.hk.mono t'⟩
theorem Two.asks {K : PySem.W.Frag} {H : Hp} {kv : V} {ks : List Str} {o : Ord} {rows : List Row} {a l lo lr p4 : Addr} {s t : SA} {w : List V} {Q : VK} {E : XK} (W : Two K H kv ks o rows a l lo lr p4 s t) (e4 : H p4 = some (.lst w)) (gk : GoodKinds ks) (go : GoodOrd ks o) (good : ∀ r ∈ rows, isRow ks r = true) (l60 : rows.length ≤ 60)
    (k : ∀ ll' H', Two K H' kv ks o rows a l lo lr p4 { s with ll := ll' } t → H' p4 = some (.lst w) → Q (.bl true) H') : sp_law_deed K [.ref a, kv, .ref lo, .ref lr, .ref s.sd] H Q E := by
  obtain ⟨L0, m0, D0⟩ := W.d0
  refine ⟨a, l, ks, o, rows, lo, lr, s.sd, s.ll, s.ps, s.pr, s.lo, s.lc, L0, m0, rfl, W.B, W.T, W.hk, gk, rfl, W.Lo, go, rfl, W.Lr, good, l60, rfl, D0, fun x hx hm => ?_, fun x hx hm => ?_, fun ll' left' many' H' D hl B' T' kk => ?_⟩
  · have : x ∈ s.all := by
      simp only [SA.all, List.mem_cons, List.not_mem_nil, or_false] at hm ⊢
      rcases hm with rfl | rfl | rfl | rfl <;> simp
    refine W.oa x this ?_
    simp only [List.mem_cons, List.not_mem_nil, or_false] at hx ⊢
    rcases hx with rfl | rfl | rfl | rfl <;> simp
  · have : x ∈ s.all ∨ x ∈ [lo, lr, p4] := by
      simp only [SA.all, List.mem_cons, List.not_mem_nil, or_false] at hx ⊢
      rcases hx with rfl | rfl | rfl | rfl | rfl | rfl | rfl | rfl <;> simp
    rcases this with h | h
    · refine W.oa x h ?_
      simp only [List.mem_cons, List.not_mem_nil, or_false] at hm ⊢
      rcases hm with rfl | rfl <;> simp
    · exact W.oo x h hm
  · obtain ⟨W', e'⟩ := W.deed e4 D hl B' T' kk
    exact k ll' H' W' e'
theorem remains2 {K : PySem.W.Frag} {E E' : XK} {EN : Ends} {H : Hp} {kv : V} {ks : List Str} {o : Ord} {rows : List Row} {a l lo lr p4 : Addr} {s t : SA} {y0 y1 : Addr} {x0 x1 x2 x3 x5 x6 x7 x8 : Option V} (W : Two K H kv ks o rows a l lo lr p4 s t) (i0 : s.sd = y0 ∧ t.sd = y1 ∨ t.sd = y0 ∧ s.sd = y1) (e4 : H p4 = some (.lst [.ref y0, .ref y1])) (l60 : rows.length ≤ 60)
    (k : ∀ H', Same H H' → EN.nx [x0, x1, x2, x3, some (.ref p4), x5, x6, x7, x8, none] H') :
    (tIfS (tNot (tB (tCall (sp_law_alike K) [] E (tCons (tLc (iList K (tVar 4)) (gName 9) tYes (tMeth (He.ga K "Sieve") "remains" (sp_Sieve_remains K) [] E' (tOpC (rIxL K) (tVar 9) (.int 0)) tNil) [9]) (tCons (tLc (iList K (tVar 4)) (gName 9) tYes (tCB1 (xLen K) (tOpC (rIxL K) (tVar 9) (.int 1))) [9]) tNil))))) (tRet (tC (.bl false))) tNext) EN [x0, x1, x2, x3, some (.ref p4), x5, x6, x7, x8, none] H := by
  obtain ⟨n0, n1, h0, h1⟩ : ∃ n0 n1 : Int, (∃ u ll ps pr lo lc left many, Sd K H kv ks o rows y0 ll ps pr lo lc left many ∧ n0 = ((left.length : Nat) : Int) ∧ u = ()) ∧ (∃ u ll ps pr lo lc left many, Sd K H kv ks o rows y1 ll ps pr lo lc left many ∧ n1 = ((left.length : Nat) : Int) ∧ u = ()) := by
    obtain ⟨L0, m0, D0⟩ := W.d0
    obtain ⟨L1, m1, D1⟩ := W.d1
    rcases i0 with ⟨rfl, rfl⟩ | ⟨rfl, rfl⟩
    · exact ⟨_, _, ⟨(), _, _, _, _, _, _, _, D0, rfl, rfl⟩, ⟨(), _, _, _, _, _, _, _, D1, rfl, rfl⟩⟩
    · exact ⟨_, _, ⟨(), _, _, _, _, _, _, _, D1, rfl, rfl⟩, ⟨(), _, _, _, _, _, _, _, D0, rfl, rfl⟩⟩
  have one : ∀ (j : Nat) (v : V), ([.ref y0, .ref y1] : List V)[j]? = some v → ∃ (y : Addr) (n : Int), v = .ref y ∧ ([.int n0, .int n1] : List V)[j]? = some (.int n) ∧ ∃ u ll ps pr lo lc left many, Sd K H kv ks o rows y ll ps pr lo lc left many ∧ n = ((left.length : Nat) : Int) ∧ u = () := fun j v hj => by
    match j, hj with
    | 0, hj => exact ⟨y0, n0, (Option.some.inj hj).symm, rfl, h0⟩
    | 1, hj => exact ⟨y1, n1, (Option.some.inj hj).symm, rfl, h1⟩
  refine ⟨_, rfl, p4, rfl, ⟨_, SqL.of e4⟩, fun D hD => ?_⟩
  refine lc_list (K := K) (a := p4) (xs := [.ref y0, .ref y1]) (fun j H' => H' D = some (.lst (([.int n0, .int n1] : List V).take j)) ∧ Same H H') ⟨upd_same, Rs.Same.new hD⟩ ?_ ?_ ?_
  · rintro j H' _ ⟨_, s'⟩
    exact SqL.of (s' _ _ e4)
  · rintro j v H' hj ⟨hd, s'⟩
    obtain ⟨y, n, rfl, hn, _, ll, ps, pr, lo', lc, left, many, DD, rfl, _⟩ := one j v hj
    have D2 := DD.keepN (TupLe.same s') (ButN.same (F := []) s') fun _ _ z => nomatch z
    obtain ⟨cs, S, hh, pm⟩ := D2.S
    obtain ⟨dx, hob⟩ := S.ob
    have lcs := pm.length_eq
    rw [cells_len, List.length_nil, Nat.add_zero] at lcs
    refine ⟨rfl, lc_yes ⟨_, rfl, ixL D2.el (j := 0) rfl rfl ⟨ps, dx, _, rfl, hob, no_Sieve_remains, ps, _, pr, lo', lc, ks, o, cs, _, rfl, S, ?_⟩⟩⟩
    have hjl : j < 2 := (List.getElem?_eq_some_iff.mp hj).1
    refine ⟨_, hd, szlt (by rw [List.length_take]; omega), ?_, Rs.Same.mut s' hD⟩
    rw [upd_same, List.take_succ, hn, lcs]
    rfl
  rintro H1 ⟨hd, s1⟩
  have hd : H1 D = some (.lst [.int n0, .int n1]) := hd
  refine ⟨_, rfl, p4, rfl, ⟨_, SqL.of (s1 _ _ e4)⟩, fun D2 hD2 => ?_⟩
  refine lc_list (K := K) (a := p4) (xs := [.ref y0, .ref y1]) (fun j H' => H' D2 = some (.lst (([.int n0, .int n1] : List V).take j)) ∧ Same H1 H') ⟨upd_same, Rs.Same.new hD2⟩ ?_ ?_ ?_
  · rintro j H' _ ⟨_, s'⟩
    exact SqL.of ((s1.trans s') _ _ e4)
  · rintro j v H' hj ⟨hd2, s'⟩
    obtain ⟨y, n, rfl, hn, _, ll, ps, pr, lo', lc, left, many, DD, rfl, _⟩ := one j v hj
    have D3 := DD.keepN (TupLe.same (s1.trans s')) (ButN.same (F := []) (s1.trans s')) fun _ _ z => nomatch z
    obtain ⟨lv, el, pl⟩ := D3.L
    have lpl := pl.length
    refine ⟨rfl, lc_yes ⟨_, rfl, ixL D3.el (j := 1) rfl rfl (lenL el (by rw [lpl]) ?_)⟩⟩
    have hjl : j < 2 := (List.getElem?_eq_some_iff.mp hj).1
    refine ⟨_, hd2, szlt (by rw [List.length_take]; omega), ?_, Rs.Same.mut s' hD2⟩
    rw [upd_same, List.take_succ, hn]
    rfl
  rintro H2 ⟨hd2, s2⟩
  have hd2 : H2 D2 = some (.lst [.int n0, .int n1]) := hd2
  refine ⟨.list [.int n0, .int n1], ?_, .lst (SqL.of (s2 _ _ hd)) (.cons (.int _) (.cons (.int _) .nil)), .lst (SqL.of hd2) (.cons (.int _) (.cons (.int _) .nil)), _, rfl, k H2 (s1.trans s2)⟩
  refine Rs.okA.to (n := 2) ⟨by show 2 ≤ 100000; decide, fun d hd => ?_⟩ (by decide)
  simp only [List.mem_cons, List.not_mem_nil, or_false] at hd
  rcases hd with rfl | rfl <;> exact trivial
theorem drain {K : PySem.W.Frag} {E : XK} {EN : Ends} {H : Hp} {kv : V} {ks : List Str} {o : Ord} {rows : List Row} {a l lo lr p4 : Addr} {s t : SA} {w : List V} {x0 x1 x2 x3 x4 x5 x6 x7 x8 : Option V} (W : Two K H kv ks o rows a l lo lr p4 s t) (e4 : H p4 = some (.lst w)) (gk : GoodKinds ks) (go : GoodOrd ks o) (good : ∀ r ∈ rows, isRow ks r = true) (l60 : rows.length ≤ 60)
    (k : ∀ ll' H', Two K H' kv ks o rows a l lo lr p4 { s with ll := ll' } t → H' p4 = some (.lst w) → EN.nx [x0, x1, x2, x3, x4, x5, x6, x7, x8, some (.ref s.sd)] H') :
    (tWhile (tTest (tOp (xNeE K) (tOpC (rIxL K) (tVar 9) (.int 1)) (tLst tNil))) (tIfS (tNot (tB (tCall (sp_law_alike K) [] E (tCons (tMeth (He.ga K "Sieve") "take" (sp_Sieve_takeX K) [] E (tOpC (rIxL K) (tVar 9) (.int 0)) tNil) (tCons (tBM K "list" rPopAt (tOpC (rIxL K) (tVar 9) (.int 1)) (tConsC (.int 0) tNil)) tNil))))) (tRet (tC (.bl false))) tNext)) EN [x0, x1, x2, x3, x4, x5, x6, x7, x8, some (.ref s.sd)] H := by
  obtain ⟨L0, m0, D0⟩ := W.d0
  refine ⟨fun m σ H' => ∃ ll' left many, left.length = m ∧ σ = [x0, x1, x2, x3, x4, x5, x6, x7, x8, some (.ref s.sd)] ∧ Two K H' kv ks o rows a l lo lr p4 { s with ll := ll' } t ∧ H' p4 = some (.lst w) ∧ Sd K H' kv ks o rows s.sd ll' s.ps s.pr s.lo s.lc left many, ⟨_, s.ll, L0, m0, rfl, rfl, W, e4, D0⟩, ?_⟩
  rintro m σ H1 ⟨ll', left, many, rfl, rfl, W1, e1, D1⟩
  obtain ⟨lv, el, pl⟩ := id D1.L
  have lpl := pl.length
  refine ⟨_, rfl, ixL D1.el (j := 1) rfl rfl ⟨sz0, fun q hq => neE el hq (b := !lv.isEmpty) rfl ⟨_, rfl, ?_⟩⟩⟩
  have s2 : Same H1 (upd H1 q (.lst [])) := Rs.Same.new hq
  generalize upd H1 q (.lst []) = H2 at s2 ⊢
  have W2 := W1.same s2
  have e2 := s2 _ _ e1
  have D2 := D1.keepN (TupLe.same s2) (ButN.same (F := []) s2) fun _ _ z => nomatch z
  cases lv with
  | nil => exact k ll' H2 W2 e2
  | cons v0 lv =>
    obtain ⟨p0, left', rfl⟩ : ∃ p l, left = p :: l := by
      cases left with
      | nil => exact nomatch lpl
      | cons p l => exact ⟨p, l, rfl⟩
    refine ⟨fun σ H' => ∃ ll' left many, left.length < (p0 :: left').length ∧ σ = [x0, x1, x2, x3, x4, x5, x6, x7, x8, some (.ref s.sd)] ∧ Two K H' kv ks o rows a l lo lr p4 { s with ll := ll' } t ∧ H' p4 = some (.lst w) ∧ Sd K H' kv ks o rows s.sd ll' s.ps s.pr s.lo s.lc left many, ?_, ?_⟩
    · rintro σ H' ⟨ll', left, many, h, r⟩
      exact ⟨_, h, ll', left, many, rfl, r⟩
    obtain ⟨cs, S, _⟩ := D2.S
    obtain ⟨dx, hob⟩ := S.ob
    refine ⟨_, rfl, ixL D2.el (j := 0) rfl rfl ⟨s.ps, dx, _, rfl, hob, no_Sieve_take, D2.take1 good gk go l60 fun v H3 v1 lv3 el3 esd dv dv1 ok D4 kF => ?_⟩⟩
    refine ⟨_, rfl, ixL esd (j := 1) rfl rfl ⟨.inl ⟨rfl, _, SqL.of el3⟩, ll', _, _, 0, v1, rfl, rfl, el3, by decide, by decide, seqIx (Nat.zero_lt_succ _), rfl, ?_⟩⟩
    have nal : ∀ x ∈ [a, l], x ∉ sdF s.sd ll' s.ps s.lc := fun x hx hm => by
      have : x ∈ ({ s with ll := ll' } : SA).all := by
        simp only [SA.all, List.mem_cons, List.not_mem_nil, or_false] at hm ⊢
        rcases hm with rfl | rfl | rfl | rfl <;> simp
      refine W2.oa x this ?_
      simp only [List.mem_cons, List.not_mem_nil, or_false] at hx ⊢
      rcases hx with rfl | rfl <;> simp
    obtain ⟨W4, e4'⟩ := W2.deed e2 D4 (.inl rfl) (W2.B.keep (fun o e => kF _ _ e (nal _ (by simp))) fun o e => kF _ _ e (nal _ (by simp))) (tabs_but W2.T kF D2.free) (ButN.of (kF.wide fun x hx => List.mem_append_right _ hx))
    exact ⟨pairD p0, ok.a.to (by decide), dv, dv1, _, rfl, ll', left', many, Nat.lt_succ_self _, rfl, W4, e4', D4⟩
abbrev N_law : List Str := ["_law_script", "_law_box", "_law_kinds_here", "_law_order_here", "_law_sides", "_law_k", "_law_handed", "_law_rows_here", "_law_turn", "_law_side"]
abbrev P_law : List Str := ["_law_script"]
def sp_law (K : PySem.W.Frag) : Sp := fun vs H Q E => match vs with
  | [s] => ∃ (p : Addr) (ns : List Int), s = .ref p ∧ SqL K H p (ns.map V.int) ∧ ns.length ≤ 63 ∧ Tabs (tabs Lms_k01 K) H ∧ ∀ H', Q (.bl true) H'
  | _ => False
def t_law (K : PySem.W.Frag) (E : XK) : TS := (tSeq (tAsg (tCall (sp_law_begun K) [] E (tCons (tVar 0) tNil)) (gName 1))
  (tSeq (tAsg (tCall (sp_law_kinds K) [] E (tCons (tVar 1) tNil)) (gName 2))
   (tSeq (tAsg (tCall (sp_law_order K) [] E (tCons (tVar 1) (tCons (tVar 2) tNil))) (gName 3))
    (tSeq (tAsg (tLst tNil) (gName 4))
     (tSeq (tFor (iRng1 (tConsC (.int 2) tNil)) (gName 5) 
        (tSeq (tAsg (tCB1 (xList K) (tVar 3)) (gName 6))
        (tSeq (tDrop (tBM K "list" rAppend (tVar 4) (tCons (tLst (tCons (tMake (He.ga K "Sieve") (sp_Sieve___init__ K) [] E (tCons (tVar 2) (tCons (tVar 6) tNil))) (tCons (tLst tNil) (tConsC (.int 0) tNil)))) tNil)))
         (tDrop (tBM0 K "list" rClear (tVar 6))))))
      (tSeq (tAsg (tCall (sp_law_rows K) [] E (tCons (tVar 1) (tCons (tVar 2) (tConsC (.int 60) tNil)))) (gName 7))
       (tSeq (tFor (iRng1 (tCons (tCall (sp_law_take K) [] E (tCons (tVar 1) (tConsC (.int 121) tNil))) tNil)) (gName 8) 
          (tSeq (tIfS (tNot (tB (tCall (sp_law_deed K) [] E (tCons (tVar 1) (tCons (tVar 2) (tCons (tVar 3) (tCons (tVar 7) (tCons (tOp (rIxL K) (tVar 4) (tOpC xDiv (tCall (sp_law_take K) [] E (tCons (tVar 1) (tConsC (.int 3) tNil))) (.int 2))) tNil)))))))) (tRet (tC (.bl false))) tNext)
          (tIfS (tNot (tB (tCall (sp_law_alike K) [] E (tCons (tLc (iList K (tVar 4)) (gName 9) tYes (tMeth (He.ga K "Sieve") "remains" (sp_Sieve_remains K) [] E0 (tOpC (rIxL K) (tVar 9) (.int 0)) tNil) [9]) (tCons (tLc (iList K (tVar 4)) (gName 9) tYes (tCB1 (xLen K) (tOpC (rIxL K) (tVar 9) (.int 1))) [9]) tNil))))) (tRet (tC (.bl false))) tNext)))
        (tSeq (tFor (iList K (tVar 4)) (gName 9) 
           (tWhile (tTest (tOp (xNeE K) (tOpC (rIxL K) (tVar 9) (.int 1)) (tLst tNil))) 
             (tIfS (tNot (tB (tCall (sp_law_alike K) [] E (tCons (tMeth (He.ga K "Sieve") "take" (sp_Sieve_takeX K) [] E (tOpC (rIxL K) (tVar 9) (.int 0)) tNil) (tCons (tBM K "list" rPopAt (tOpC (rIxL K) (tVar 9) (.int 1)) (tConsC (.int 0) tNil)) tNil))))) (tRet (tC (.bl false))) tNext)))
         (tRet (tC (.bl true)))))))))))
theorem pure_law {K : PySem.W.Frag} : ∀ vs H Q E, sp_law K vs H Q E → t_law K E { nx := fun _ H' => Q .non H', rt := Q } (start N_law vs) H := by
  intro vs H Q E h
  match vs, h with
  | [sv], h =>
    obtain ⟨s, ns, rfl, hs, hn, TT, k⟩ := h
    refine ⟨_, rfl, s, ns, rfl, hs, hn, fun a l H1 ha hl B1 s1 => ?_⟩
    have T1 := tabs_same TT s1
    refine ⟨_, rfl, a, l, rfl, B1, fun kv ks H2 hk gk B2 k2 => ?_⟩
    have T2 := tabs_but T1 k2 B1.free
    refine ⟨_, rfl, _, rfl, a, l, ks, rfl, B2, hk, gk, fun lo o H3 nlo Lo go B3 k3 => ?_⟩
    have T3 := tabs_but T2 k3 B2.free
    have flo := B2.fresh nlo
    have hk3 := KindsAt.st _ _ _ _ (B2.tup k3) hk
    refine ⟨sz0, fun p4 hp4 => ?_⟩
    have fp4 := B3.fresh hp4
    have n4o : p4 ≠ lo := fun z => by
      obtain ⟨_, e, _⟩ := Lo
      rw [z, e] at hp4
      cases hp4
    clear k2 k3 T1 T2 B1 B2 hk TT
    refine ⟨_, rfl, by decide, by decide, ?_⟩
    refine for_range (lo := 0) (n := (2 : Int).toNat) (fun i σ H' => ∃ x5 x6, ∃ ds : List SA, ds.length = i ∧ σ = [some (.ref s), some (.ref a), some kv, some (.ref lo), some (.ref p4), x5, x6, none, none, none] ∧ H' p4 = some (.lst (ds.map fun s => V.ref s.sd)) ∧
      (∀ s ∈ ds, SdA K H' kv ks o [] s [] 0 ∧ ∀ x ∈ s.all, H3 x = none ∧ x ≠ p4) ∧ ds.Pairwise (fun s t => ∀ x ∈ s.all, x ∉ t.all) ∧ Same H3 H') ⟨_, _, [], rfl, rfl, upd_same, (fun s hs => nomatch hs), .nil, Rs.Same.new hp4⟩ ?_ ?_
    · rintro i σ H' hi ⟨x5, x6, ds, dl, rfl, e4, hds, hpw, s'⟩
      obtain ⟨ov, eo, po⟩ := Lo.same TurnAt.st s'
      refine ⟨_, rfl, lo, _, rfl, .inl (SqL.of eo), fun q6 hq6 => ?_⟩
      have s5 : Same H' (upd H' q6 (.lst ov)) := Rs.Same.new hq6
      have L6 : Lst TurnAt (upd H' q6 (.lst ov)) q6 o := ⟨ov, upd_same, Paired.tl TurnAt.st (TupLe.same s5) po⟩
      generalize upd H' q6 (.lst ov) = H5 at s5 L6 ⊢
      have e45 := s5 _ _ e4
      refine ⟨_, rfl, .inl ⟨rfl, _, SqL.of e45⟩, ?_⟩
      refine ⟨_, rfl, _, rfl, fun ps dx hps hdx ndx => ?_⟩
      have s9 : Same H5 (upd (upd H5 dx (.own ps)) ps (.ins (He.ga K "Sieve") dx [])) := (Rs.Same.new hdx).trans (Rs.Same.new (by rw [upd_ne ndx.symm]; exact hps))
      have eps : upd (upd H5 dx (.own ps)) ps (.ins (He.ga K "Sieve") dx []) ps = some (.ins (He.ga K "Sieve") dx []) := upd_same
      generalize upd (upd H5 dx (.own ps)) ps (.ins (He.ga K "Sieve") dx []) = H9 at s9 eps ⊢
      have s39 := s'.trans (s5.trans s9)
      refine ⟨ps, dx, ks, o, q6, rfl, eps, hk3.mono (TupLe.same s39), gk, rfl, L6.same TurnAt.st s9, go, by have := go.len gk.le; have := gk.le; omega, fun pr lo2 lc H10 S10 hpr hlo2 hlc k10 => ⟨rfl, sz0, fun ll hll => ?_⟩⟩
      have s510 : Same H5 H10 := k10.fresh s9 fun x hx => by rw [List.mem_singleton] at hx; rw [hx]; exact hps
      have s11 : Same H10 (upd H10 ll (.lst [])) := Rs.Same.new hll
      have L11 : Lst PairAt (upd H10 ll (.lst [])) ll [] := ⟨[], upd_same, .nil⟩
      generalize upd H10 ll (.lst []) = H11 at s11 L11 ⊢
      refine ⟨szle (by show 3 ≤ 100000; decide), fun sd hsd => ?_⟩
      have s12 : Same H11 (upd H11 sd (.lst [.ref ps, .ref ll, .int 0])) := Rs.Same.new hsd
      have e12 : upd H11 sd (.lst [.ref ps, .ref ll, .int 0]) sd = some (.lst [.ref ps, .ref ll, .int 0]) := upd_same
      generalize upd H11 sd (.lst [.ref ps, .ref ll, .int 0]) = H12 at s12 e12 ⊢
      have s512 := (s510.trans s11).trans s12
      have e412 := s512 _ _ e45
      refine ⟨p4, _, _, rfl, rfl, e412, szlt (by rw [List.length_map]; omega), ?_⟩
      have S12 := S10.same (s11.trans s12)
      have n5 : ∀ x ∈ [sd, ll, ps, pr, lo2, lc], H5 x = none := fun x hx => by
        simp only [List.mem_cons, List.not_mem_nil, or_false] at hx
        rcases hx with rfl | rfl | rfl | rfl | rfl | rfl
        · exact (s510.trans s11).free hsd
        · exact s510.free hll
        · exact hps
        · exact s9.free hpr
        · exact s9.free hlo2
        · exact s9.free hlc
      obtain ⟨v6, e6, _⟩ := id L6
      have q46 : p4 ≠ q6 := fun z => by
        rw [← z] at hq6
        rw [e4] at hq6
        cases hq6
      have nsl : sd ≠ ll := fun z => by
        obtain ⟨_, e, _⟩ := L11
        rw [z, e] at hsd
        cases hsd
      obtain ⟨cv, ecv, _⟩ := S10.room.cells
      obtain ⟨wv, ewv, _⟩ := S10.room.ord
      have q1 : sd ≠ lc := fun z => by
        rw [z] at hsd
        have := s11 _ _ ecv
        rw [hsd] at this
        cases this
      have q2 : ll ≠ lc := fun z => by
        rw [z] at hll
        rw [hll] at ecv
        cases ecv
      have q3 : lo2 ≠ sd := fun z => by
        rw [← z] at hsd
        have := s11 _ _ ewv
        rw [hsd] at this
        cases this
      have q4 : lo2 ≠ ll := fun z => by
        rw [← z] at hll
        rw [hll] at ewv
        cases ewv
      have D12 : SdA K H12 kv ks o [] ⟨sd, ll, ps, pr, lo2, lc⟩ [] 0 := ⟨e12, L11.same PairAt.st s12, ⟨[], S12, (fun i _ h => by simp at h), .refl _⟩, .nil, (fun p hp => nomatch hp), .nil, Nat.le_refl _, Nat.le_refl _, nsl, q1, q2, q3, q4⟩
      have e612 := s512 _ _ e6
      have s312 := s'.trans (s5.trans s512)
      have b13 : But [p4, q6] H12 (upd H12 p4 (.lst (ds.map (fun s => V.ref s.sd) ++ [.ref sd]))) := (But.refl _ _).put (by simp)
      have t13 : TupLe H12 (upd H12 p4 (.lst (ds.map (fun s => V.ref s.sd) ++ [.ref sd]))) := (TupLe.refl _).list e412
      have e13 : upd H12 p4 (.lst (ds.map (fun s => V.ref s.sd) ++ [.ref sd])) p4 = some (.lst (ds.map (fun s => V.ref s.sd) ++ [.ref sd])) := upd_same
      have s313 : Same H3 (upd H12 p4 (.lst (ds.map (fun s => V.ref s.sd) ++ [.ref sd]))) := Rs.Same.mut s312 hp4
      have e613 : upd H12 p4 (.lst (ds.map (fun s => V.ref s.sd) ++ [.ref sd])) q6 = some (.lst v6) := up e612 q46.symm
      generalize upd H12 p4 (.lst (ds.map (fun s => V.ref s.sd) ++ [.ref sd])) = H13 at b13 t13 e13 s313 e613 ⊢
      refine ⟨_, rfl, .inl ⟨rfl, _, SqL.of e613⟩, q6, _, rfl, rfl, e613, ?_⟩
      have b14 : But [p4, q6] H12 (upd H13 q6 (.lst [])) := b13.put (by simp)
      have t14 : TupLe H12 (upd H13 q6 (.lst [])) := t13.trans ((TupLe.refl _).list e613)
      have e14 : upd H13 q6 (.lst []) p4 = some (.lst (ds.map (fun s => V.ref s.sd) ++ [.ref sd])) := up e13 q46
      have s314 : Same H3 (upd H13 q6 (.lst [])) := Rs.Same.mut s313 (s'.free hq6)
      generalize upd H13 q6 (.lst []) = H14 at b14 t14 e14 s314 ⊢
      have s'12 := s5.trans s512
      refine ⟨_, _, ds ++ [⟨sd, ll, ps, pr, lo2, lc⟩], by rw [List.length_append, dl]; rfl, rfl, by rw [e14, List.map_append]; rfl, fun s hs => ?_, ?_, s314⟩
      · rcases List.mem_append.mp hs with hs | hs
        · obtain ⟨D, nD⟩ := hds s hs
          refine ⟨Sd.keepN (Sd.keepN D (TupLe.same s'12) (ButN.same (F := []) s'12) (fun _ _ z => nomatch z)) t14 (ButN.of b14) (fun b hb => nn (nD b hb).2 fun z => ?_), nD⟩
          have := Sd.there D b hb
          rw [z] at this
          exact this hq6
        · rw [List.mem_singleton.mp hs]
          refine ⟨Sd.keepN D12 t14 (ButN.of b14) (fun b hb => nn (fun z => ?_) fun z => ?_), fun x hx => ⟨(s'.trans s5).free (n5 x hx), fun z => ?_⟩⟩
          · have := n5 b hb
            rw [z, e45] at this
            cases this
          · have := n5 b hb
            rw [z, e6] at this
            cases this
          · have := n5 x hx
            rw [z, e45] at this
            cases this
      · refine List.pairwise_append.mpr ⟨hpw, by simp, fun s hs t ht x hx hxt => ?_⟩
        rw [List.mem_singleton.mp ht] at hxt
        exact Sd.there (hds s hs).1 x hx (s5.free (n5 x hxt))
    · rintro σ H4 ⟨x5, x6, ds, dl, rfl, e4, hds, hpw, s34⟩
      obtain ⟨s0, s1', rfl⟩ : ∃ s t, ds = [s, t] := by
        match ds, dl with
        | [s, t], _ => exact ⟨s, t, rfl⟩
      obtain ⟨D0, n0⟩ := hds s0 (by simp)
      obtain ⟨D1, n1⟩ := hds s1' (by simp)
      have ap := (List.pairwise_cons.mp hpw).1 s1' (by simp)
      have B4 := B3.same s34
      have T4 := tabs_same T3 s34
      have hk4 := hk3.mono (TupLe.same s34)
      have Lo4 := Lo.same TurnAt.st s34
      refine ⟨_, rfl, _, rfl, a, l, ks, 60, rfl, rfl, by decide, by decide, B4, hk4, gk, fun lr rows H5 nlr Lr good hlen B5 k5 => ?_⟩
      have t45 := B4.tup k5
      have f3 : ∀ {x : Addr}, H3 x = none → x ∉ [a, l] := fun h => B3.fresh h
      have all0 : ∀ {s : SA}, (∀ x ∈ s.all, H3 x = none ∧ x ≠ p4) → (∀ x ∈ s.all, H4 x ≠ none) → ∀ x ∈ s.all, x ∉ [a, l, lo, lr, p4] := fun {s} h th x hx hm => by
        have hh := h x hx
        have f := f3 hh.1
        simp only [List.mem_cons, List.not_mem_nil, or_false] at hm f
        rcases hm with rfl | rfl | rfl | rfl | rfl
        · exact f (.inl rfl)
        · exact f (.inr rfl)
        · obtain ⟨_, e, _⟩ := Lo
          rw [hh.1] at e
          cases e
        · exact th _ hx nlr
        · exact hh.2 rfl
      have D0' := Sd.keepN D0 t45 (ButN.of k5) fun b hb => f3 (n0 b hb).1
      have D1' := Sd.keepN D1 t45 (ButN.of k5) fun b hb => f3 (n1 b hb).1
      have grow : ∀ {s : SA}, SdA K H5 kv ks o [] s [] 0 → SdA K H5 kv ks o rows s [] 0 := fun D => ⟨D.el, D.L, D.S, .nil, (fun p hp => nomatch hp), .nil, Nat.zero_le _, Nat.le_refl _, D.n1, D.n2, D.n3, D.n4, D.n5⟩
      have flr := B4.fresh nlr
      have W : Two K H5 kv ks o rows a l lo lr p4 s0 s1' := ⟨⟨_, _, grow D0'⟩, ⟨_, _, grow D1'⟩, ap, all0 n0 (Sd.there D0), all0 n1 (Sd.there D1), (fun x hx => by
        simp only [List.mem_cons, List.not_mem_nil, or_false] at hx
        rcases hx with rfl | rfl | rfl
        · exact flo
        · exact flr
        · exact fp4), B5, tabs_but T4 k5 B4.free, Lst.but TurnAt.st B4 k5 Lo4 flo, Lr, hk4.mono t45⟩
      have l60 : rows.length ≤ 60 := by omega
      have e5 := k5 _ _ e4 fp4
      clear D0' D1' grow all0 f3 D0 D1 n0 n1 ap hds hpw e4 T4 hk4 Lo4 Lr k5 t45 B4 B5 Lo hk3 T3 B3 s34 nlr nlo hp4 hlen
      refine ⟨_, rfl, a, l, _, rfl, rfl, by decide, by decide, W.B, fun m H6 m0 m1 B6 k6 => ⟨_, rfl, by omega, by omega, ?_⟩⟩
      have W := W.took k6 B6
      have e6 := k6 _ _ e5 fp4
      have e6 : H6 p4 = some (.lst [.ref s0.sd, .ref s1'.sd]) := e6
      obtain ⟨y0, ey0⟩ : ∃ x, s0.sd = x := ⟨_, rfl⟩
      obtain ⟨y1, ey1⟩ : ∃ x, s1'.sd = x := ⟨_, rfl⟩
      rw [ey0, ey1] at e6
      refine for_range (lo := 0) (n := m.toNat) (fun i σ H' => ∃ x8 s' t', σ = [some (.ref s), some (.ref a), some kv, some (.ref lo), some (.ref p4), x5, x6, some (.ref lr), x8, none] ∧ Two K H' kv ks o rows a l lo lr p4 s' t' ∧ s'.sd = y0 ∧ t'.sd = y1 ∧ H' p4 = some (.lst [.ref y0, .ref y1])) ⟨_, s0, s1', rfl, W, ey0, ey1, e6⟩ ?_ ?_
      · rintro i σ H7 hi ⟨x8, s', t', rfl, W7, rfl, rfl, e7⟩
        refine ⟨_, rfl, _, rfl, _, rfl, _, rfl, _, rfl, _, rfl, a, l, _, rfl, rfl, by decide, by decide, W7.B, fun r H8 r0 r1 B8 k8 => ⟨_, _, rfl, rfl, div_ok (by decide) (by decide), ?_⟩⟩
        have W8 := W7.took k8 B8
        have e8 := k8 _ _ e7 fp4
        have rest : ∀ H' (s2 t2 : SA), Two K H' kv ks o rows a l lo lr p4 s2 t2 → s2.sd = s'.sd → t2.sd = t'.sd → H' p4 = some (.lst [.ref s'.sd, .ref t'.sd]) → ∀ H'', Same H' H'' → ∃ x8 s2 t2, [some (.ref s), some (.ref a), some kv, some (.ref lo), some (.ref p4), x5, x6, some (.ref lr), some (.int (0 + (i : Int))), none] = [some (.ref s), some (.ref a), some kv, some (.ref lo), some (.ref p4), x5, x6, some (.ref lr), x8, none] ∧ Two K H'' kv ks o rows a l lo lr p4 s2 t2 ∧ s2.sd = s'.sd ∧ t2.sd = t'.sd ∧ H'' p4 = some (.lst [.ref s'.sd, .ref t'.sd]) := fun H' s2 t2 W' a1 a2 e' H'' ss => ⟨_, s2, t2, rfl, W'.same ss, a1, a2, ss _ _ e'⟩
        have : r = 0 ∨ r = 1 ∨ r = 2 := by omega
        have ix : r / 2 = 0 ∨ r / 2 = 1 := by omega
        rcases ix with ix | ix
        · dsimp only
          rw [ix]
          refine ixL e8 (j := 0) rfl rfl ?_
          dsimp only [tNil, List.cons_append, List.nil_append]
          refine W8.asks e8 gk go good l60 fun ll' H9 W9 e9 => ⟨_, rfl, ?_⟩
          exact remains2 W9 (.inl ⟨rfl, rfl⟩) e9 l60 fun H' ss => rest H9 _ _ W9 rfl rfl e9 H' ss
        · dsimp only
          rw [ix]
          refine ixL e8 (j := 1) rfl rfl ?_
          dsimp only [tNil, List.cons_append, List.nil_append]
          refine W8.swap.asks e8 gk go good l60 fun ll' H9 W9 e9 => ⟨_, rfl, ?_⟩
          exact remains2 W9.swap (.inl ⟨rfl, rfl⟩) e9 l60 fun H' ss => rest H9 _ _ W9.swap rfl rfl e9 H' ss
      · rintro σ H7 ⟨x8, s', t', rfl, W7, ey0', ey1', e7⟩
        refine ⟨_, rfl, p4, rfl, ⟨_, SqL.of e7⟩, ?_⟩
        refine for_list (K := K) (a := p4) (xs := [.ref y0, .ref y1]) (fun j σ H' => ∃ x9 s' t', σ = [some (.ref s), some (.ref a), some kv, some (.ref lo), some (.ref p4), x5, x6, some (.ref lr), x8, x9] ∧ Two K H' kv ks o rows a l lo lr p4 s' t' ∧ s'.sd = y0 ∧ t'.sd = y1 ∧ H' p4 = some (.lst [.ref y0, .ref y1])) ⟨_, s', t', rfl, W7, ey0', ey1', e7⟩ ?_ ?_ ?_
        · rintro j σ H' _ ⟨_, _, _, _, _, _, _, e⟩
          exact SqL.of e
        · rintro j v σ H8 hj ⟨x9, s2, t2, rfl, W8, ea, eb, e8⟩
          match j, hj with
          | 0, hj =>
            cases hj
            rw [← ea]
            exact drain W8 e8 gk go good l60 fun ll' H' W' e' => ⟨_, _, t2, rfl, W', rfl, eb, by rw [ea]; exact e'⟩
          | 1, hj =>
            cases hj
            rw [← eb]
            exact drain W8.swap e8 gk go good l60 fun ll' H' W' e' => ⟨_, s2, _, rfl, W'.swap, ea, rfl, by rw [eb]; exact e'⟩
        · rintro σ H' _
          exact k H'
end Rs


namespace Lw
open PySem PySem.Spec PyProof.Rows L2 Rs LamX
structure Wd (K : PySem.W.Frag) (mg : Str → Option Value) (base : Heap) : Prop where
  c : Hx.SaysM fs fn K
  X : ∃ h : Heap, K.In h ∧ h.Ns mainGlobals mg
  tab : TabF K mg base Lms_k01
section
variable {K : PySem.W.Frag} {mg : Str → Option Value} {base : Heap}
theorem nodup_tabs (c : Hx.SaysM fs fn K) : ((tabs Lms_k01 K).map (·.1)).Nodup := of_decide_eq_true (c.fact 0 (f := fun K => decide ((tf.map fun p => (He.cT K p).2).Nodup)) rfl)
theorem Wd.err (W : Wd K mg base) (i : Nat) {x : Str} (h : fe[i]? = some x) : ErrIs K x := errB_ok (W.c.fact (i + 1) (f := fun K => Rs.errB x K) (by
  show (fe.map (fun x K => Rs.errB x K) ++ fr)[i]? = _
  rw [List.getElem?_append_left (by rw [List.length_map]; exact (List.getElem?_eq_some_iff.mp h).1), List.getElem?_map, h]; rfl))
theorem Wd.em (W : Wd K mg base) (i : Nat) {x f : Str} (h : fm[i]? = some (x, f)) : ErrMk K x f := emB_ok (W.c.fact (fe.length + i + 1) (f := fun K => Rs.emB x f K) (by
  show (fe.map (fun x K => Rs.errB x K) ++ fr)[fe.length + i]? = _
  rw [List.getElem?_append_right (by rw [List.length_map]; omega), List.length_map, Nat.add_sub_cancel_left]
  unfold fr
  rw [List.getElem?_append_left (by rw [List.length_map]; exact (List.getElem?_eq_some_iff.mp h).1), List.getElem?_map, h]; rfl))
theorem says_fact (c : Hx.SaysM fs fn K) (i : Nat) {f : He.Fa} (h : fa[i]? = some f) : f.ok K = true := c.fact (fe.length + (fm.length + i) + 1) (f := fun K => f.ok K) (by
  show (fe.map (fun x K => Rs.errB x K) ++ fr)[fe.length + (fm.length + i)]? = _
  rw [List.getElem?_append_right (by rw [List.length_map]; omega), List.length_map, Nat.add_sub_cancel_left]
  unfold fr
  rw [List.getElem?_append_right (by rw [List.length_map]; omega), List.length_map, Nat.add_sub_cancel_left, List.getElem?_map, h]; rfl)
theorem Wd.fact (W : Wd K mg base) (i : Nat) {f : He.Fa} (h : fa[i]? = some f) : f.ok K = true := says_fact W.c i h
theorem lms_tf (p : He.Defn × Str) (h : p ∈ Lms_k01) : p.1 ∈ tf := by
  have e : Lms_k01.map (·.1) = tf := rfl
  rw [← e]
  exact List.mem_map.mpr ⟨p, h, rfl⟩
theorem tabs_start (H : Hp) (h : ∀ p ∈ tf, H (He.cT K p).2 = some (.tbl #[])) : Tabs (tabs Lms_k01 K) H := fun q hq => by
  obtain ⟨p, hp, rfl⟩ := List.mem_map.mp hq
  exact TabS.nil (h _ (lms_tf p hp))
theorem Wd.glo (W : Wd K mg base) (i : Nat) {x : Str} (h : fa[i]? = some (.glo x)) : mg x = some (.ref (He.ga K x)) := let ⟨_, a, b⟩ := W.X; He.glo_ok a b (W.fact i h)
theorem Wd.free (W : Wd K mg base) (i : Nat) {x : Str} (h : fa[i]? = some (.free x)) : mg x = none := let ⟨_, a, b⟩ := W.X; He.free_ok a b (W.fact i h)
theorem Wd.int (W : Wd K mg base) (i : Nat) {x : Str} {z : Int} (h : fa[i]? = some (.int x z)) : ∃ t, mg x = some (.int z t) := let ⟨_, a, b⟩ := W.X; He.int_ok a b (W.fact i h)
theorem Wd.str (W : Wd K mg base) (i : Nat) {x z : Str} (h : fa[i]? = some (.str x z)) : ∃ t, mg x = some (.str z t) := let ⟨_, a, b⟩ := W.X; He.str_ok a b (W.fact i h)
theorem Wd.cls (W : Wd K mg base) (i : Nat) {x : Str} (h : fa[i]? = some (.cls x)) : Cls K (He.ga K x) := He.cls_ok (W.fact i h)
theorem Wd.noat (W : Wd K mg base) (i : Nat) {x f : Str} (h : fa[i]? = some (.noat x f)) : NoAttr K (He.ga K x) f := He.noat_ok (W.fact i h)
theorem Wd.meth (W : Wd K mg base) (i : Nat) {x m : Str} (h : fa[i]? = some (.meth x m)) : Meth K (He.ga K x) m (He.ma K (He.ga K x) m) := He.meth_ok (W.fact i h)
theorem Wd.exc (W : Wd K mg base) (i : Nat) {x : Str} (h : fa[i]? = some (.exc x)) : PySem.W.excIn K (He.ga K x) He.veBase "ValueError.__new__" = true ∧ PySem.W.keepIn K (.ref (He.ga K x)) = true ∧ PySem.W.subIn K (.ref (He.ga K x)) (.type "BaseException") = some true ∧ PySem.W.typeIn K (.ref (He.ga K x)) = some (.type "type") := He.exc_ok (W.fact i h)
theorem Wd.exm (W : Wd K mg base) (i : Nat) {x y : Str} {b : Bool} (h : fa[i]? = some (.exm x y b)) : PySem.W.exmOne K (.ref (He.ga K x)) (.ref (He.ga K y)) = some b := He.exm_ok (W.fact i h)
theorem Wd.mkr (W : Wd K mg base) (i : Nat) {x : Str} (h : fa[i]? = some (.mkr x)) : Mk K (He.ga K x) (He.ma K (He.ga K x) "__init__") := He.mkr_ok (W.fact i h)
theorem Wd.txt_Room (W : Wd K mg base) : TxtRoom K := ⟨W.cls 37 rfl, W.noat 75 rfl, W.noat 76 rfl⟩
theorem Wd.txt_Sieve (W : Wd K mg base) : TxtSieve K := ⟨W.cls 63 rfl, W.noat 77 rfl, W.noat 78 rfl, W.noat 79 rfl⟩
end
/-! ### each def keeps its promise -/
section
variable {P : Program} {w : World} {K : PySem.W.Frag} {mg : Str → Option Value} {base : Heap}
theorem sc_law_begun : FnScope N_law_begun P_law_begun (defScope s_law_begun) := ⟨rfl, rfl, rfl, by decide +kernel, rfl, by decide +kernel, by decide +kernel⟩
theorem ok_law_begun (W : Wd K mg base) : Can P w K mg base 1 ("_law_begun", none) P_law_begun (sp_law_begun K) := by
  obtain ⟨fd, F⟩ := W.c.def_ 0 (d := d_law_begun) rfl
  refine can_of F (F.bindsN fun _ _ _ _ _ _ us hl => match us, hl with | [_], _ => rfl) sc_law_begun (fun vs H Q E h => by unfold sp_law_begun at h; match vs, h with | [_], _ => rfl) (t_law_begun K) (fun cdv A outer s H E hr => ?_) (pure_law_begun)
  have nd := sc_law_begun.nd
  exact (pss_cons (ps_set (i := 1) nd rfl (Or.inl rfl) pe_int)
    (pss_cons (ps_for (passes_of rfl) rfl (pi_list (pv 0)) (pg_name (i := 2) nd rfl (Or.inl rfl)) (pss_one (ps_set (i := 1) nd rfl (Or.inl rfl) (pe_opC op_mod (pe_opC op_add (pe_op op_add (pe_opC op_mul (pv 1) pe_int) (pe_opC op_mul (pv 2) pe_int)) pe_int) pe_int))))
    (pss_one (ps_ret (pe_lst (pa_cons (pe_callTy1 call_list_of (by rfl) (W.free 0 rfl) (by decide +kernel) (pv 0)) (pa_cons (pe_op op_mul (pv 1) (pe_callTy1 call_int1 (by rfl) (W.free 2 rfl) (by decide +kernel) (pe_cmpRC op_gt (pe_callB1 call_len_seq (by rfl) (W.free 1 rfl) (by decide +kernel) (pv 0)) pe_int (nomark _)))) pa_nil)))))))
theorem sc_law_take : FnScope N_law_take P_law_take (defScope s_law_take) := ⟨rfl, rfl, rfl, by decide +kernel, rfl, by decide +kernel, by decide +kernel⟩
theorem ok_law_take (W : Wd K mg base) : Can P w K mg base 1 ("_law_take", none) P_law_take (sp_law_take K) := by
  obtain ⟨fd, F⟩ := W.c.def_ 1 (d := d_law_take) rfl
  refine can_of F (F.bindsN fun _ _ _ _ _ _ us hl => match us, hl with | [_, _], _ => rfl) sc_law_take (fun vs H Q E h => by unfold sp_law_take at h; match vs, h with | [_, _], _ => rfl) (t_law_take K) (fun cdv A outer s H E hr => ?_) (pure_law_take)
  have nd := sc_law_take.nd
  exact (pss_cons (ps_if (pt_cmpR (opx_eqE (hu_of hr)) (pe_ixC ix_list (pv 0) pe_int (fun _ _ => rfl)) (pe_lst pa_nil) (nomark _)) (pss_cons (ps_asg (pe_opC op_mod (pe_opC op_mul (pe_ixC ix_list (pv 0) pe_int (fun _ _ => rfl)) pe_int) pe_int) (pg_subC (pv 0) pe_int set_list))
    (pss_one (ps_ret (pe_op op_mod (pe_opC op_fdivW (pe_ixC ix_list (pv 0) pe_int (fun _ _ => rfl)) pe_int) (pv 1))))) pss_nil)
    (pss_cons (ps_set (i := 2) nd rfl (Or.inl rfl) (pe_ixC ix_list (pe_ixC ix_list (pv 0) pe_int (fun _ _ => rfl)) pe_int (fun _ _ => rfl)))
    (pss_cons (ps_asg (pe_op op_fdivW (pv 2) (pv 1)) (pg_subC (pe_ixC ix_list (pv 0) pe_int (fun _ _ => rfl)) pe_int set_list))
    (pss_cons (ps_if (PW.pt (pw_or (pt_cmpRC op_eq (pe_ixC ix_list (pe_ixC ix_list (pv 0) pe_int (fun _ _ => rfl)) pe_int (fun _ _ => rfl)) pe_int (nomark _)) (pw_or1 (pt_cmpRC op_eq (pe_ixC ix_list (pe_ixC ix_list (pv 0) pe_int (fun _ _ => rfl)) pe_int (fun _ _ => rfl)) (pe_unN pe_int) (nomark _))))) (pss_one (ps_expr (pe_bm PySem.F.plainAttrs_list PySem.F.slot_list_pop PySem.F.type_list_pop mt_popAt (pe_ixC ix_list (pv 0) pe_int (fun _ _ => rfl)) (pa_consC pe_int pa_nil)))) pss_nil)
    (pss_one (ps_ret (pe_op op_mod (pv 2) (pv 1))))))))
theorem sc_law_kinds : FnScope N_law_kinds P_law_kinds (defScope s_law_kinds) := ⟨rfl, rfl, rfl, by decide +kernel, rfl, by decide +kernel, by decide +kernel⟩
theorem ok_law_kinds (W : Wd K mg base) : Can P w K mg base 2 ("_law_kinds", none) P_law_kinds (sp_law_kinds K) := by
  obtain ⟨fd, F⟩ := W.c.def_ 2 (d := d_law_kinds) rfl
  refine can_of F (F.bindsN fun _ _ _ _ _ _ us hl => match us, hl with | [_], _ => rfl) sc_law_kinds (fun vs H Q E h => by unfold sp_law_kinds at h; match vs, h with | [_], _ => rfl) (t_law_kinds K) (fun cdv A outer s H E hr => ?_) (pure_law_kinds)
  have nd := sc_law_kinds.nd
  exact (pss_one (ps_ret (pe_callTy1 call_tuple_of (by rfl) (W.free 5 rfl) (by decide +kernel) (pe_lc (own := [("_law_k", 1)]) rfl nd (pi_range1 (by rfl) (W.free 4 rfl) (pa_cons (pe_opD op_add pe_int (pe_callC (ok_law_take W) (hr.mono (by decide)) rfl (W.glo 3 rfl) (passes_call (takes_of rfl rfl rfl rfl) (fun _ _ _ _ h => h)) (pa_cons (pv 0) (pa_consC pe_int pa_nil)))) pa_nil)) (blkOk_by (own := [("_law_k", 1)]) (N := N_law_kinds) (sc := defScope s_law_kinds) (by decide +kernel)) (fun _ _ _ _ _ => (pg_name (i := 1) nd rfl (Or.inl rfl))) (fun _ _ _ _ _ => pts_nil) (fun _ _ _ _ _ => (pe_ix ix_list (pe_lst (pa_consC pe_str (pa_consC pe_str pa_nil))) (pe_callC (ok_law_take W) (hr.mono (by decide)) rfl (W.glo 3 rfl) passL (pa_cons (pv 0) (pa_consC pe_int pa_nil))) (fun _ _ => rfl)))))))
theorem sc_law_order : FnScope N_law_order P_law_order (defScope s_law_order) := ⟨rfl, rfl, rfl, by decide +kernel, rfl, by decide +kernel, by decide +kernel⟩
theorem ok_law_order (W : Wd K mg base) : Can P w K mg base 2 ("_law_order", none) P_law_order (sp_law_order K) := by
  obtain ⟨fd, F⟩ := W.c.def_ 3 (d := d_law_order) rfl
  refine can_of F (F.bindsN fun _ _ _ _ _ _ us hl => match us, hl with | [_, _], _ => rfl) sc_law_order (fun vs H Q E h => by unfold sp_law_order at h; match vs, h with | [_, _], _ => rfl) (t_law_order K) (fun cdv A outer s H E hr => ?_) (pure_law_order)
  have nd := sc_law_order.nd
  exact (pss_cons (ps_set (i := 2) nd rfl (Or.inl rfl) (pe_listRg rfl rfl (W.free 0 rfl) (prg_1 rfl (W.free 4 rfl) (pe_callB1 call_len_seq (by rfl) (W.free 1 rfl) (by decide +kernel) (pv 1)))))
    (pss_cons (ps_set (i := 3) nd rfl (Or.inl rfl) (pe_lst pa_nil))
    (pss_cons (ps_for (passes_of rfl) rfl (pi_range1 (by rfl) (W.free 4 rfl) (pa_cons (pe_opD op_add pe_int (pe_callC (ok_law_take W) (hr.mono (by decide)) rfl (W.glo 3 rfl) (passes_call (takes_of rfl rfl rfl rfl) (fun _ _ _ _ h => h)) (pa_cons (pv 0) (pa_cons (pe_callB1 call_len_seq (by rfl) (W.free 1 rfl) (by decide +kernel) (pv 1)) pa_nil)))) pa_nil)) (pg_name (i := 4) nd rfl (Or.inl rfl)) (pss_one (ps_expr (pe_bm PySem.F.plainAttrs_list PySem.F.slot_list_append PySem.F.type_list_append mt_append (pv 3) (pa_cons (pe_tup (pa_cons (pe_bm PySem.F.plainAttrs_list PySem.F.slot_list_pop PySem.F.type_list_pop mt_popAt (pv 2) (pa_cons (pe_callC (ok_law_take W) (hr.mono (by decide)) rfl (W.glo 3 rfl) (passes_call (takes_of rfl rfl rfl rfl) (fun _ _ _ _ h => h)) (pa_cons (pv 0) (pa_cons (pe_callB1 call_len_seq (by rfl) (W.free 1 rfl) (by decide +kernel) (pv 2)) pa_nil))) pa_nil)) (pa_cons (pe_ix ix_list (pe_lst (pa_consC pe_str (pa_consC pe_str pa_nil))) (pe_callC (ok_law_take W) (hr.mono (by decide)) rfl (W.glo 3 rfl) (passes_call (takes_of rfl rfl rfl rfl) (fun _ _ _ _ h => h)) (pa_cons (pv 0) (pa_consC pe_int pa_nil))) (fun _ _ => rfl)) pa_nil))) pa_nil)))))
    (pss_one (ps_ret (pv 3))))))
theorem sc_law_value : FnScope N_law_value P_law_value (defScope s_law_value) := ⟨rfl, rfl, rfl, by decide +kernel, rfl, by decide +kernel, by decide +kernel⟩
theorem ok_law_value (W : Wd K mg base) : Can P w K mg base 2 ("_law_value", none) P_law_value (sp_law_value K) := by
  obtain ⟨fd, F⟩ := W.c.def_ 4 (d := d_law_value) rfl
  refine can_of F (F.bindsN fun _ _ _ _ _ _ us hl => match us, hl with | [_, _], _ => rfl) sc_law_value (fun vs H Q E h => by unfold sp_law_value at h; match vs, h with | [_, _], _ => rfl) (t_law_value K) (fun cdv A outer s H E hr => ?_) (pure_law_value)
  have nd := sc_law_value.nd
  exact (pss_cons (ps_if (pt_cmpRC op_eq (pv 1) pe_str (nomark _)) (pss_one (ps_ret (pe_ix ix_list (pe_lst (pa_cons (pe_callC (ok_law_take W) (hr.mono (by decide)) rfl (W.glo 3 rfl) (passes_call (takes_of rfl rfl rfl rfl) (fun _ _ _ _ h => h)) (pa_cons (pv 0) (pa_consC pe_int pa_nil))) (pa_cons (pe_opC op_sub (pe_callC (ok_law_take W) (hr.mono (by decide)) rfl (W.glo 3 rfl) (passes_call (takes_of rfl rfl rfl rfl) (fun _ _ _ _ h => h)) (pa_cons (pv 0) (pa_consC pe_int pa_nil))) pe_int) (pa_cons (pe_ix ix_list (pe_lst (pa_consC (pe_unN pe_int) (pa_consC pe_int (pa_consC pe_int pa_nil)))) (pe_callC (ok_law_take W) (hr.mono (by decide)) rfl (W.glo 3 rfl) (passes_call (takes_of rfl rfl rfl rfl) (fun _ _ _ _ h => h)) (pa_cons (pv 0) (pa_consC pe_int pa_nil))) (fun _ _ => rfl)) pa_nil)))) (pe_callC (ok_law_take W) (hr.mono (by decide)) rfl (W.glo 3 rfl) (passes_call (takes_of rfl rfl rfl rfl) (fun _ _ _ _ h => h)) (pa_cons (pv 0) (pa_consC pe_int pa_nil))) (fun _ _ => rfl)))) pss_nil)
    (pss_cons (ps_set (i := 2) nd rfl (Or.inl rfl) (pe_callC (ok_law_take W) (hr.mono (by decide)) rfl (W.glo 3 rfl) (passes_call (takes_of rfl rfl rfl rfl) (fun _ _ _ _ h => h)) (pa_cons (pv 0) (pa_cons (pe_ix ix_list (pe_lst (pa_consC pe_int (pa_consC pe_int pa_nil))) (pe_callC (ok_law_take W) (hr.mono (by decide)) rfl (W.glo 3 rfl) (passes_call (takes_of rfl rfl rfl rfl) (fun _ _ _ _ h => h)) (pa_cons (pv 0) (pa_consC pe_int pa_nil))) (fun _ _ => rfl)) pa_nil))))
    (pss_cons (ps_set (i := 3) nd rfl (Or.inr rfl) (pe_ix ix_list (pe_lst (pa_consC pe_str (pa_consC pe_str pa_nil))) (pe_callC (ok_law_take W) (hr.mono (by decide)) rfl (W.glo 3 rfl) (passes_call (takes_of rfl rfl rfl rfl) (fun _ _ _ _ h => h)) (pa_cons (pv 0) (pa_consC pe_int pa_nil))) (fun _ _ => rfl)))
    (pss_one (ps_ret (pe_join pe_str (pe_lc (own := [("_law_k", 4)]) rfl nd (pi_range1 (by rfl) (W.free 4 rfl) (pa_cons (pv 2) pa_nil)) (blkOk_by (own := [("_law_k", 4)]) (N := N_law_value) (sc := defScope s_law_value) (by decide +kernel)) (fun _ _ _ _ _ => (pg_name (i := 4) nd rfl (Or.inl rfl))) (fun _ _ _ _ _ => pts_nil) (fun _ _ _ _ _ => (pe_ix ix_str (pv 3) (pe_callC (ok_law_take W) (hr.mono (by decide)) rfl (W.glo 3 rfl) passL (pa_cons (pv 0) (pa_cons (pe_callB1 call_len_str (by rfl) (W.free 1 rfl) (by decide +kernel) (pv 3)) pa_nil))) (fun _ _ => rfl))))))))))
theorem sc_law_rows : FnScope N_law_rows P_law_rows (defScope s_law_rows) := ⟨rfl, rfl, rfl, by decide +kernel, rfl, by decide +kernel, by decide +kernel⟩
theorem ok_law_rows (W : Wd K mg base) : Can P w K mg base 3 ("_law_rows", none) P_law_rows (sp_law_rows K) := by
  obtain ⟨fd, F⟩ := W.c.def_ 5 (d := d_law_rows) rfl
  refine can_of F (F.bindsN fun _ _ _ _ _ _ us hl => match us, hl with | [_, _, _], _ => rfl) sc_law_rows (fun vs H Q E h => by unfold sp_law_rows at h; match vs, h with | [_, _, _], _ => rfl) (t_law_rows K) (fun cdv A outer s H E hr => ?_) (pure_law_rows)
  have nd := sc_law_rows.nd
  exact (pss_cons (ps_set (i := 3) nd rfl (Or.inl rfl) (pe_lst pa_nil))
    (pss_cons (ps_set (i := 4) nd rfl (Or.inl rfl) (pe_callC (ok_law_take W) (hr.mono (by decide)) rfl (W.glo 3 rfl) (passes_call (takes_of rfl rfl rfl rfl) (fun _ _ _ _ h => h)) (pa_cons (pv 0) (pa_consC pe_int pa_nil))))
    (pss_cons (ps_for (passes_of rfl) rfl (pi_range1 (by rfl) (W.free 4 rfl) (pa_cons (pe_callC (ok_law_take W) (hr.mono (by decide)) rfl (W.glo 3 rfl) (passes_call (takes_of rfl rfl rfl rfl) (fun _ _ _ _ h => h)) (pa_cons (pv 0) (pa_cons (pe_opC op_add (pv 2) pe_int) pa_nil))) pa_nil)) (pg_name (i := 5) nd rfl (Or.inl rfl)) (pss_cons (ps_setLc (i := 6) (own := [("_law_kind", 7)]) rfl nd rfl rfl (sw_true rfl rfl rfl (by decide +kernel)) (pi_tup (pv 1)) (blkOk_by (own := [("_law_kind", 7)]) (N := N_law_rows) (sc := defScope s_law_rows) (by decide +kernel)) (fun _ _ _ _ _ => (pg_name (i := 7) nd rfl (Or.inl rfl))) (fun _ _ _ _ _ => pts_nil) (fun _ _ _ _ _ => (pe_callC (ok_law_value W) (hr.mono (by decide)) rfl (W.glo 6 rfl) passL (pa_cons (pv 0) (pa_cons (pv 7) pa_nil)))))
    (pss_cons (ps_if (PW.pt (pw_and (pt_cmpR (opx_neE (hu_of hr)) (pv 3) (pe_lst pa_nil) (nomark _)) (pw_and1 (pt_cmpRC op_eq (pe_callC (ok_law_take W) (hr.mono (by decide)) rfl (W.glo 3 rfl) (passes_call (takes_of rfl rfl rfl rfl) (fun _ _ _ _ h => h)) (pa_cons (pv 0) (pa_consC pe_int pa_nil))) pe_int (nomark _))))) (pss_one (ps_set (i := 6) nd rfl (Or.inl rfl) (pe_callTy1 call_list_of (by rfl) (W.free 0 rfl) (by decide +kernel) (pe_ix ix_list (pv 3) (pe_callC (ok_law_take W) (hr.mono (by decide)) rfl (W.glo 3 rfl) (passes_call (takes_of rfl rfl rfl rfl) (fun _ _ _ _ h => h)) (pa_cons (pv 0) (pa_cons (pe_callB1 call_len_seq (by rfl) (W.free 1 rfl) (by decide +kernel) (pv 3)) pa_nil))) (fun _ _ => rfl))))) pss_nil)
    (pss_cons (ps_if (PW.pt (pw_and (pt_cmpR (opx_neE (hu_of hr)) (pv 3) (pe_lst pa_nil) (nomark _)) (pw_and (pt_cmpRC op_lt (pv 4) pe_int (nomark _)) (pw_and1 (pt_cmpRC op_eq (pe_ixC ix_tup (pv 1) pe_int (fun _ _ => rfl)) pe_str (nomark _)))))) (pss_one (ps_asg (pe_callB (call_max2 rfl) (by rfl) (W.free 8 rfl) (by decide +kernel) (pa_consC (pe_unN pe_int) (pa_cons (pe_callB (call_min2 rfl) (by rfl) (W.free 7 rfl) (by decide +kernel) (pa_consC pe_int (pa_cons (pe_op op_add (pe_ixC ix_tup (pe_ixC ix_list (pv 3) (pe_unN pe_int) (fun _ _ => rfl)) pe_int (fun _ _ => rfl)) (pe_op op_mul (pe_ix ix_list (pe_lst (pa_consC pe_int (pa_consC (pe_unN pe_int) pa_nil))) (pv 4) (fun _ _ => rfl)) (pe_callC (ok_law_take W) (hr.mono (by decide)) rfl (W.glo 3 rfl) (passes_call (takes_of rfl rfl rfl rfl) (fun _ _ _ _ h => h)) (pa_cons (pv 0) (pa_consC pe_int pa_nil))))) pa_nil))) pa_nil))) (pg_subC (pv 6) pe_int set_list))) pss_nil)
    (pss_one (ps_expr (pe_bm PySem.F.plainAttrs_list PySem.F.slot_list_append PySem.F.type_list_append mt_append (pv 3) (pa_cons (pe_callTy1 call_tuple_of (by rfl) (W.free 5 rfl) (by decide +kernel) (pv 6)) pa_nil))))))))
    (pss_one (ps_ret (pv 3))))))
theorem sc_law_alike : FnScope N_law_alike P_law_alike (defScope s_law_alike) := ⟨rfl, rfl, rfl, by decide +kernel, rfl, by decide +kernel, by decide +kernel⟩
theorem okr_law_alike (W : Wd K mg base) : ∀ d, Can P w K mg base (0 + d) ("_law_alike", none) P_law_alike (spr_law_alike K d) := by
  obtain ⟨fd, F⟩ := W.c.def_ 6 (d := d_law_alike) rfl
  refine can_rec (lev := 0) F (F.bindsN fun _ _ _ _ _ _ us hl => match us, hl with | [_, _], _ => rfl) sc_law_alike (len_law_alike K) (no_law_alike K) (t_law_alike K) (fun d ih cdv A outer s H E hr => ?_) (fun d => pure_law_alike d)
  have nd := sc_law_alike.nd
  exact (pss_cons (ps_if (pt_cmpRC op_isN1 (pv 1) pe_non (nomark _)) (pss_one (ps_ret (pe_cmpRC op_isN1 (pv 0) pe_non (nomark _)))) pss_nil)
    (pss_cons (ps_if (pt_val (pe_isi (by rfl) (W.free 9 rfl) (pv 1) (pe_bltn (v := .ty "bool") rfl (W.free 10 rfl) (by decide +kernel) rfl))) (pss_one (ps_ret (pe_and (pe_isi (by rfl) (W.free 9 rfl) (pv 0) (pe_bltn (v := .ty "bool") rfl (W.free 10 rfl) (by decide +kernel) rfl)) (pe_one (pe_cmpR op_eq (pv 0) (pv 1) (nomark _)))))) pss_nil)
    (pss_cons (ps_if (pt_val (pe_isi (by rfl) (W.free 9 rfl) (pv 1) (pe_bltn (v := .ty "int") rfl (W.free 2 rfl) (by decide +kernel) rfl))) (pss_one (ps_ret (pe_and (pe_isi (by rfl) (W.free 9 rfl) (pv 0) (pe_bltn (v := .ty "int") rfl (W.free 2 rfl) (by decide +kernel) rfl)) (pe_and (pe_not (pe_isi (by rfl) (W.free 9 rfl) (pv 0) (pe_bltn (v := .ty "bool") rfl (W.free 10 rfl) (by decide +kernel) rfl))) (pe_one (pe_cmpR op_eq (pv 0) (pv 1) (nomark _))))))) pss_nil)
    (pss_cons (ps_if (pt_val (pe_isi (by rfl) (W.free 9 rfl) (pv 1) (pe_bltn (v := .ty "str") rfl (W.free 11 rfl) (by decide +kernel) rfl))) (pss_one (ps_ret (pe_and (pe_isi (by rfl) (W.free 9 rfl) (pv 0) (pe_bltn (v := .ty "str") rfl (W.free 11 rfl) (by decide +kernel) rfl)) (pe_one (pe_cmpR op_eq (pv 0) (pv 1) (nomark _)))))) pss_nil)
    (pss_cons (ps_if (PW.pt (pw_or (pt_cmpR op_ne (pe_isi (by rfl) (W.free 9 rfl) (pv 1) (pe_bltn (v := .ty "tuple") rfl (W.free 5 rfl) (by decide +kernel) rfl)) (pe_isi (by rfl) (W.free 9 rfl) (pv 0) (pe_bltn (v := .ty "tuple") rfl (W.free 5 rfl) (by decide +kernel) rfl)) (nomark _)) (pw_or1 (pt_cmpR op_ne (pe_isi (by rfl) (W.free 9 rfl) (pv 1) (pe_bltn (v := .ty "list") rfl (W.free 0 rfl) (by decide +kernel) rfl)) (pe_isi (by rfl) (W.free 9 rfl) (pv 0) (pe_bltn (v := .ty "list") rfl (W.free 0 rfl) (by decide +kernel) rfl)) (nomark _))))) (pss_one (ps_ret pe_bl)) pss_nil)
    (pss_cons (ps_if (pt_cmpR op_ne (pe_callB1 call_len_seq (by rfl) (W.free 1 rfl) (by decide +kernel) (pv 0)) (pe_callB1 call_len_seq (by rfl) (W.free 1 rfl) (by decide +kernel) (pv 1)) (nomark _)) (pss_one (ps_ret pe_bl)) pss_nil)
    (pss_cons (ps_for (passes_of rfl) rfl (pi_range1 (by rfl) (W.free 4 rfl) (pa_cons (pe_callB1 call_len_seq (by rfl) (W.free 1 rfl) (by decide +kernel) (pv 1)) pa_nil)) (pg_name (i := 2) nd rfl (Or.inl rfl)) (pss_one (ps_if (pt_not (pt_val (pe_callC ih (hr.mono (by omega)) rfl (W.glo 12 rfl) (passes_call (takes_of rfl rfl rfl rfl) (fun _ _ _ _ h => h)) (pa_cons (pe_ix ix_seq (pv 0) (pv 2) (fun _ _ => rfl)) (pa_cons (pe_ix ix_seq (pv 1) (pv 2) (fun _ _ => rfl)) pa_nil))))) (pss_one (ps_ret pe_bl)) pss_nil)))
    (pss_one (ps_ret pe_bl)))))))))
theorem ok_law_alike (W : Wd K mg base) : Can P w K mg base 45 ("_law_alike", none) P_law_alike (sp_law_alike K) := okr_law_alike W 45
theorem sc_law_ahead : FnScope N_law_ahead P_law_ahead (defScope s_law_ahead) := ⟨rfl, rfl, rfl, by decide +kernel, rfl, by decide +kernel, by decide +kernel⟩
theorem ok_law_ahead (W : Wd K mg base) : Can P w K mg base 1 ("_law_ahead", none) P_law_ahead (sp_law_ahead K) := by
  obtain ⟨fd, F⟩ := W.c.def_ 7 (d := d_law_ahead) rfl
  refine can_of F (F.bindsN fun _ _ _ _ _ _ us hl => match us, hl with | [_, _, _], _ => rfl) sc_law_ahead (fun vs H Q E h => by unfold sp_law_ahead at h; match vs, h with | [_, _, _], _ => rfl) (t_law_ahead K) (fun cdv A outer s H E hr => ?_) (pure_law_ahead)
  have nd := sc_law_ahead.nd
  exact (pss_cons (ps_for (passes_of rfl) rfl (pi_list (pv 0)) (pg_tup rfl (pgs_cons (pg_name (i := 3) nd rfl (Or.inl rfl)) (pgs_cons (pg_name (i := 4) nd rfl (Or.inl rfl)) pgs_nil))) (pss_cons (ps_par (i := 5) (j := 6) rfl nd rfl rfl (by decide) rfl rfl (pa_cons (pe_ix ix_tup (pe_ixC ix_tup (pv 1) pe_int (fun _ _ => rfl)) (pv 3) (fun _ _ => rfl)) (pa_cons (pe_ix ix_tup (pe_ixC ix_tup (pv 2) pe_int (fun _ _ => rfl)) (pv 3) (fun _ _ => rfl)) pa_nil)) (by rfl))
    (pss_one (ps_if (pt_cmpR op_ne (pv 5) (pv 6) (nomark _)) (pss_one (ps_ret (pe_ifExp (pt_cmpRC op_eq (pv 4) pe_str (nomark _)) (pe_cmpR opx_ltV (pv 5) (pv 6) (nomark _)) (pe_cmpR opx_gtV (pv 5) (pv 6) (nomark _))))) pss_nil))))
    (pss_one (ps_ret (pe_cmpR op_lt (pe_ixC ix_tup (pv 1) pe_int (fun _ _ => rfl)) (pe_ixC ix_tup (pv 2) pe_int (fun _ _ => rfl)) (nomark _)))))
theorem sc_law_sorted : FnScope N_law_sorted P_law_sorted (defScope s_law_sorted) := ⟨rfl, rfl, rfl, by decide +kernel, rfl, by decide +kernel, by decide +kernel⟩
theorem ok_law_sorted (W : Wd K mg base) : Can P w K mg base 2 ("_law_sorted", none) P_law_sorted (sp_law_sorted K) := by
  obtain ⟨fd, F⟩ := W.c.def_ 8 (d := d_law_sorted) rfl
  refine can_of F (F.bindsN fun _ _ _ _ _ _ us hl => match us, hl with | [_, _], _ => rfl) sc_law_sorted (fun vs H Q E h => by unfold sp_law_sorted at h; match vs, h with | [_, _], _ => rfl) (t_law_sorted K) (fun cdv A outer s H E hr => ?_) (pure_law_sorted)
  have nd := sc_law_sorted.nd
  exact (pss_cons (ps_set (i := 2) nd rfl (Or.inl rfl) (pe_lst pa_nil))
    (pss_cons (ps_for (passes_of rfl) rfl (pi_list (pv 1)) (pg_name (i := 3) nd rfl (Or.inl rfl)) (pss_cons (ps_par (i := 4) (j := 5) rfl nd rfl rfl (by decide) rfl rfl (pa_consC pe_int (pa_cons (pe_callB1 call_len_seq (by rfl) (W.free 1 rfl) (by decide +kernel) (pv 2)) pa_nil)) (by rfl))
    (pss_cons (ps_while (passes_of rfl) (pt_cmpR op_lt (pv 4) (pv 5) (nomark _)) (pss_cons (ps_set (i := 6) nd rfl (Or.inl rfl) (pe_opC op_fdivW (pe_op op_add (pv 4) (pv 5)) pe_int))
    (pss_one (ps_if (pt_val (pe_callC (ok_law_ahead W) (hr.mono (by decide)) rfl (W.glo 13 rfl) (passes_call (takes_of rfl rfl rfl rfl) (fun _ _ _ _ h => h)) (pa_cons (pv 0) (pa_cons (pv 3) (pa_cons (pe_ix ix_list (pv 2) (pv 6) (fun _ _ => rfl)) pa_nil))))) (pss_one (ps_set (i := 5) nd rfl (Or.inl rfl) (pv 6))) (pss_one (ps_set (i := 4) nd rfl (Or.inl rfl) (pe_opC op_add (pv 6) pe_int)))))))
    (pss_one (ps_expr (pe_bm PySem.F.plainAttrs_list PySem.F.slot_list_insert PySem.F.type_list_insert mt_insert (pv 2) (pa_cons (pv 4) (pa_cons (pv 3) pa_nil))))))))
    (pss_one (ps_ret (pv 2)))))
theorem sc_law_bad_row : FnScope N_law_bad_row P_law_bad_row (defScope s_law_bad_row) := ⟨rfl, rfl, rfl, by decide +kernel, rfl, by decide +kernel, by decide +kernel⟩
theorem ok_law_bad_row (W : Wd K mg base) : Can P w K mg base 3 ("_law_bad_row", none) P_law_bad_row (sp_law_bad_row K) := by
  obtain ⟨fd, F⟩ := W.c.def_ 9 (d := d_law_bad_row) rfl
  refine can_of F (F.bindsN fun _ _ _ _ _ _ us hl => match us, hl with | [_, _, _], _ => rfl) sc_law_bad_row (fun vs H Q E h => by unfold sp_law_bad_row at h; match vs, h with | [_, _, _], _ => rfl) (t_law_bad_row K) (fun cdv A outer s H E hr => ?_) (pure_law_bad_row)
  have nd := sc_law_bad_row.nd
  exact (pss_cons (ps_set (i := 3) nd rfl (Or.inl rfl) (pe_callC (ok_law_take W) (hr.mono (by decide)) rfl (W.glo 3 rfl) (passes_call (takes_of rfl rfl rfl rfl) (fun _ _ _ _ h => h)) (pa_cons (pv 0) (pa_cons (pe_callB1 call_len_seq (by rfl) (W.free 1 rfl) (by decide +kernel) (pv 1)) pa_nil))))
    (pss_cons (ps_set (i := 4) nd rfl (Or.inl rfl) (pe_callC (ok_law_take W) (hr.mono (by decide)) rfl (W.glo 3 rfl) (passes_call (takes_of rfl rfl rfl rfl) (fun _ _ _ _ h => h)) (pa_cons (pv 0) (pa_cons (pe_opC op_pow pe_int pe_int) pa_nil))))
    (pss_cons (ps_set (i := 5) nd rfl (Or.inl rfl) (pe_lst (pa_cons (pe_opD op_add pe_int (pv 4)) (pa_cons (pe_opD op_sub (pe_unN pe_int) (pv 4)) (pa_consC pe_str (pa_consC pe_str pa_nil))))))
    (pss_cons (ps_if (pt_cmpRC op_eq (pe_ix ix_tup (pv 1) (pv 3) (fun _ _ => rfl)) pe_str (nomark _)) (pss_cons (ps_set (i := 6) nd rfl (Or.inl rfl) pe_str)
    (pss_cons (ps_set (i := 7) nd rfl (Or.inl rfl) (pe_slice sl_str (pe_callC (ok_law_value W) (hr.mono (by decide)) rfl (W.glo 6 rfl) (passes_call (takes_of rfl rfl rfl rfl) (fun _ _ _ _ h => h)) (pa_cons (pv 0) (pa_consC pe_str pa_nil))) po_none (po_some pe_int)))
    (pss_cons (ps_set (i := 8) nd rfl (Or.inl rfl) (pe_callC (ok_law_take W) (hr.mono (by decide)) rfl (W.glo 3 rfl) (passes_call (takes_of rfl rfl rfl rfl) (fun _ _ _ _ h => h)) (pa_cons (pv 0) (pa_cons (pe_opC op_add (pe_callB1 call_len_str (by rfl) (W.free 1 rfl) (by decide +kernel) (pv 7)) pe_int) pa_nil))))
    (pss_cons (ps_set (i := 9) nd rfl (Or.inl rfl) (pe_op op_add_str (pe_op op_add_str (pe_slice sl_str (pv 7) po_none (po_some (pv 8))) (pe_ix ix_str (pv 6) (pe_callC (ok_law_take W) (hr.mono (by decide)) rfl (W.glo 3 rfl) (passes_call (takes_of rfl rfl rfl rfl) (fun _ _ _ _ h => h)) (pa_cons (pv 0) (pa_consC pe_int pa_nil))) (fun _ _ => rfl))) (pe_slice sl_str (pv 7) (po_some (pv 8)) po_none)))
    (pss_one (ps_set (i := 5) nd rfl (Or.inl rfl) (pe_lst (pa_cons (pv 9) (pa_cons (pv 9) (pa_cons (pe_opC op_add_str (pv 7) pe_str) (pa_cons (pv 4) pa_nil))))))))))) pss_nil)
    (pss_cons (ps_set (i := 9) nd rfl (Or.inl rfl) (pe_op op_catA (pe_op op_catA (pe_slice sl_tupA (pv 2) po_none (po_some (pv 3))) (pe_tup (pa_cons (pe_ix ix_list (pv 5) (pe_callC (ok_law_take W) (hr.mono (by decide)) rfl (W.glo 3 rfl) (passes_call (takes_of rfl rfl rfl rfl) (fun _ _ _ _ h => h)) (pa_cons (pv 0) (pa_consC pe_int pa_nil))) (fun _ _ => rfl)) pa_nil))) (pe_slice sl_tupA (pv 2) (po_some (pe_opC op_add (pv 3) pe_int)) po_none)))
    (pss_one (ps_ret (pe_ix ix_list (pe_lst (pa_cons (pv 9) (pa_cons (pv 9) (pa_cons (pv 9) (pa_cons (pe_op op_catA (pv 2) (pe_slice sl_tupA (pv 2) po_none (po_some pe_int))) (pa_cons (pe_slice sl_tupA (pv 2) (po_some pe_int) po_none) (pa_cons (pe_tup pa_nil) pa_nil))))))) (pe_callC (ok_law_take W) (hr.mono (by decide)) rfl (W.glo 3 rfl) (passes_call (takes_of rfl rfl rfl rfl) (fun _ _ _ _ h => h)) (pa_cons (pv 0) (pa_consC pe_int pa_nil))) (fun _ _ => rfl)))))))))
theorem sc_law_class : FnScope N_law_class P_law_class (defScope s_law_class) := ⟨rfl, rfl, rfl, by decide +kernel, rfl, by decide +kernel, by decide +kernel⟩
theorem warm_law_class (W : Wd K mg base) : WarmFn P w K mg base "_law_class" N_law_class (t_law_class K) := by
  obtain ⟨fd, F⟩ := W.c.def_ 10 (d := d_law_class) rfl
  refine warm_of F (F.bindsN fun _ _ _ _ _ _ us hl => match us, hl with | [_], _ => rfl) sc_law_class (W.glo 14 rfl) (fun D a d oe C hz hf cdv A outer z H => ?_)
  have nd := sc_law_class.nd
  have hp : (a, oe) ∈ [(a, oe)] := List.mem_cons_self
  exact (pss_cons (ps_set (i := 1) nd rfl (Or.inl rfl) (pe_lst (pa_cons (pe_callB (call_isP C hz hf hp) (by rfl) (W.free 9 rfl) (by decide +kernel) (pa_cons (pv 0) (pa_consC (pe_gref rfl (W.glo 15 rfl)) pa_nil))) (pa_cons (pe_callB (call_isP C hz hf hp) (by rfl) (W.free 9 rfl) (by decide +kernel) (pa_cons (pv 0) (pa_consC (pe_gref rfl (W.glo 16 rfl)) pa_nil))) (pa_cons (pe_callB (call_isP C hz hf hp) (by rfl) (W.free 9 rfl) (by decide +kernel) (pa_cons (pv 0) (pa_consC (pe_gref rfl (W.glo 17 rfl)) pa_nil))) (pa_cons (pe_callB (call_isP C hz hf hp) (by rfl) (W.free 9 rfl) (by decide +kernel) (pa_cons (pv 0) (pa_consC (pe_gref rfl (W.glo 18 rfl)) pa_nil))) pa_nil))))))
    (pss_cons (ps_set (i := 1) nd rfl (Or.inl rfl) (pe_op op_cat (pv 1) (pe_lst (pa_cons (pe_callB (call_isP C hz hf hp) (by rfl) (W.free 9 rfl) (by decide +kernel) (pa_cons (pv 0) (pa_consC (pe_gref rfl (W.glo 19 rfl)) pa_nil))) (pa_cons (pe_callB (call_isP C hz hf hp) (by rfl) (W.free 9 rfl) (by decide +kernel) (pa_cons (pv 0) (pa_consC (pe_gref rfl (W.glo 20 rfl)) pa_nil))) (pa_cons (pe_callB (call_isP C hz hf hp) (by rfl) (W.free 9 rfl) (by decide +kernel) (pa_cons (pv 0) (pa_consC (pe_gref rfl (W.glo 21 rfl)) pa_nil))) (pa_cons (pe_callB (call_isP C hz hf hp) (by rfl) (W.free 9 rfl) (by decide +kernel) (pa_cons (pv 0) (pa_consC (pe_gref rfl (W.glo 22 rfl)) pa_nil))) pa_nil)))))))
    (pss_cons (ps_set (i := 1) nd rfl (Or.inl rfl) (pe_op op_cat (pv 1) (pe_lst (pa_cons (pe_callB (call_isP C hz hf hp) (by rfl) (W.free 9 rfl) (by decide +kernel) (pa_cons (pv 0) (pa_consC (pe_gref rfl (W.glo 23 rfl)) pa_nil))) (pa_cons (pe_callB (call_isP C hz hf hp) (by rfl) (W.free 9 rfl) (by decide +kernel) (pa_cons (pv 0) (pa_consC (pe_gref rfl (W.glo 24 rfl)) pa_nil))) (pa_cons (pe_callB (call_isP C hz hf hp) (by rfl) (W.free 9 rfl) (by decide +kernel) (pa_cons (pv 0) (pa_consC (pe_gref rfl (W.glo 25 rfl)) pa_nil))) (pa_cons (pe_callB (call_isP C hz hf hp) (by rfl) (W.free 9 rfl) (by decide +kernel) (pa_cons (pv 0) (pa_consC (pe_gref rfl (W.glo 26 rfl)) pa_nil))) pa_nil)))))))
    (pss_cons (ps_set (i := 1) nd rfl (Or.inl rfl) (pe_op op_cat (pv 1) (pe_lst (pa_cons (pe_callB (call_isP C hz hf hp) (by rfl) (W.free 9 rfl) (by decide +kernel) (pa_cons (pv 0) (pa_consC (pe_gref rfl (W.glo 27 rfl)) pa_nil))) (pa_cons (pe_callB (call_isP C hz hf hp) (by rfl) (W.free 9 rfl) (by decide +kernel) (pa_cons (pv 0) (pa_consC (pe_gref rfl (W.glo 28 rfl)) pa_nil))) (pa_cons (pe_callB (call_isP C hz hf hp) (by rfl) (W.free 9 rfl) (by decide +kernel) (pa_cons (pv 0) (pa_consC (pe_gref rfl (W.glo 29 rfl)) pa_nil))) pa_nil))))))
    (pss_cons (ps_set (i := 2) nd rfl (Or.inl rfl) (pe_lst (pa_consC pe_str (pa_consC pe_str (pa_consC pe_str (pa_consC pe_str (pa_consC pe_str (pa_consC pe_str (pa_consC pe_str (pa_consC pe_str (pa_consC pe_str pa_nil)))))))))))
    (pss_cons (ps_set (i := 2) nd rfl (Or.inl rfl) (pe_op op_cat (pv 2) (pe_lst (pa_consC pe_str (pa_consC pe_str (pa_consC pe_str (pa_consC pe_str (pa_consC pe_str (pa_consC pe_str pa_nil)))))))))
    (pss_one (ps_ret (pe_ifExp (PW.pt (pw_and (pt_cmpRC op_eq (pe_bm PySem.F.plainAttrs_list PySem.F.slot_list_count PySem.F.type_list_count mt_countF (pv 1) (pa_consC pe_bl pa_nil)) pe_int (nomark _)) (pw_and1 (pt_val (pe_callB (call_isP C hz hf hp) (by rfl) (W.free 9 rfl) (by decide +kernel) (pa_cons (pv 0) (pa_consC (pe_bltn (v := .ty "ValueError") rfl (W.free 30 rfl) (by decide +kernel) rfl) pa_nil))))))) (pe_ix ix_list (pv 2) (pe_bm PySem.F.plainAttrs_list PySem.F.slot_list_index PySem.F.type_list_index mt_index (pv 1) (pa_consC pe_bl pa_nil)) (fun _ _ => rfl)) pe_str)))))))))
theorem sc_law_told : FnScope N_law_told P_law_told (defScope s_law_told) := ⟨rfl, rfl, rfl, by decide +kernel, rfl, by decide +kernel, by decide +kernel⟩
theorem told_law_told (W : Wd K mg base) : ToldFn P w K mg base "_law_told" := by
  obtain ⟨fd, F⟩ := W.c.def_ 11 (d := d_law_told) rfl
  refine told_of F (F.bindsN fun _ _ _ _ _ _ us hl => match us, hl with | [_], _ => rfl) sc_law_told rfl (Or.inl rfl) (W.glo 32 rfl) (by decide) (by decide) (fun cdv X hP hw hK hm hB hr q => ?_)
  subst hP hw hK hm hB
  have nd := sc_law_told.nd
  refine told_does (y := "_law_work") (n := "_law_e") rfl (W.glo 31 rfl) (by decide) nd rfl rfl (fun _ => rfl) (fun s H a oe cls d pn hz hf => ?_) pure_law_told
  exact (pss_cons (ps_set (i := 2) nd rfl (Or.inl rfl) (pe_warmV (k := 0) (warm_law_class W) (room_suite hr) List.mem_cons_self hz hf rfl (pv 1)))
    (pss_cons (ps_if (pt_cmpRC op_eq (pv 2) pe_str (nomark _)) (pss_one (ps_ret (pe_tup (pa_cons (pv 2) (pa_cons (pe_errF hz hf (pv 1)) pa_nil))))) pss_nil)
    (pss_one (ps_ret (pe_tup (pa_cons (pv 2) (pa_cons (pe_ifExp (pt_cmpR op_in_seq (pv 2) (pe_tup (pa_consC pe_str (pa_consC pe_str pa_nil))) (by rfl)) (pe_errF hz hf (pv 1)) pe_int) pa_nil)))))))
theorem sc_law_all : FnScope N_law_all P_law_all (defScope s_law_all) := ⟨rfl, rfl, rfl, by decide +kernel, rfl, by decide +kernel, by decide +kernel⟩
theorem all_law_all (W : Wd K mg base) : AllFn P w K mg base "_law_all" "_law_told" N_law_all (t_law_all K) 45 := by
  obtain ⟨fd, F⟩ := W.c.def_ 12 (d := d_law_all) rfl
  refine all_of F (F.bindsN fun _ _ _ _ _ _ us hl => match us, hl with | [_, _], _ => rfl) sc_law_all (W.glo 33 rfl) (fun cdv X hP hw hK hm hB s H hr LS tt hT => ?_)
  subst hP hw hK hm hB
  have nd := sc_law_all.nd
  exact (pss_one (ps_ret (pe_cmpR (opx_eqE (hu_of hr)) (pe_lcU (own := [("_law_work", 2)]) rfl nd (pi_list (pv 0)) (blkOk_by (own := [("_law_work", 2)]) (N := N_law_all) (sc := defScope s_law_all) (by decide +kernel)) (fun _ _ _ _ _ => (pg_name (i := 2) nd rfl (Or.inl rfl))) (fun _ _ _ _ _ bk => (pts_one (pt_not (pt_val (pe_callC (ok_law_alike W) (hr.mono (by decide)) rfl (W.glo 12 rfl) passL (pa_cons (hT _ _ _ _ _ _ 2 _ _ _ _ bk rfl rfl (by first | exact Or.inl rfl | exact Or.inr (Or.inl rfl) | exact Or.inr (Or.inr rfl)) (by decide) (by decide) (by decide)) (pa_cons (pv 1) pa_nil))))))) (fun _ _ _ _ _ bk => (pv 2))) (pe_lst pa_nil) (nomark _))))
theorem sc_Room_swap : FnScope N_Room_swap P_Room_swap (defScope s_Room_swap) := ⟨rfl, rfl, rfl, by decide +kernel, rfl, by decide +kernel, by decide +kernel⟩
theorem ok_Room_swap (W : Wd K mg base) : Can P w K mg base 1 ("Room", some "swap") P_Room_swap (sp_Room_swap K) := by
  obtain ⟨fd, F⟩ := W.c.def_ 13 (d := d_Room_swap) rfl
  refine can_of F (F.bindsN fun _ _ _ _ _ _ us hl => match us, hl with | [_, _, _], _ => rfl) sc_Room_swap (fun vs H Q E h => by unfold sp_Room_swap at h; match vs, h with | [_, _, _], _ => rfl) (t_Room_swap K) (fun cdv A outer s H E hr => ?_) (pure_Room_swap W.txt_Room)
  have nd := sc_Room_swap.nd
  exact (pss_one (ps_asg (pe_tup (pa_cons (pe_ix ix_list (pe_fl (pv 0) rfl) (pv 2) (fun _ _ => rfl)) (pa_cons (pe_ix ix_list (pe_fl (pv 0) rfl) (pv 1) (fun _ _ => rfl)) pa_nil))) (pg_tup rfl (pgs_cons (pg_sub (pe_fl (pv 0) rfl) (pv 1) set_list) (pgs_cons (pg_sub (pe_fl (pv 0) rfl) (pv 2) set_list) pgs_nil)))))
theorem sc_is_before : FnScope N_is_before P_is_before (defScope s_is_before) := ⟨rfl, rfl, rfl, by decide +kernel, rfl, by decide +kernel, by decide +kernel⟩
theorem ok_is_before (W : Wd K mg base) : Can P w K mg base 1 ("is_before", none) P_is_before (sp_is_before K) := by
  obtain ⟨fd, F⟩ := W.c.def_ 14 (d := d_is_before) rfl
  refine can_of F (F.bindsN fun _ _ _ _ _ _ us hl => match us, hl with | [_, _, _], _ => rfl) sc_is_before (fun vs H Q E h => by unfold sp_is_before at h; match vs, h with | [_, _, _], _ => rfl) (t_is_before K) (fun cdv A outer s H E hr => ?_) (pure_is_before)
  have nd := sc_is_before.nd
  exact (pss_cons (ps_for (passes_of rfl) rfl (pi_list (pv 0)) (pg_tup rfl (pgs_cons (pg_name (i := 3) nd rfl (Or.inl rfl)) (pgs_cons (pg_name (i := 4) nd rfl (Or.inl rfl)) pgs_nil))) (pss_one (ps_if (pt_cmpR op_ne (pe_ix ix_tup (pe_ixC ix_tup (pv 1) pe_int (fun _ _ => rfl)) (pv 3) (fun _ _ => rfl)) (pe_ix ix_tup (pe_ixC ix_tup (pv 2) pe_int (fun _ _ => rfl)) (pv 3) (fun _ _ => rfl)) (nomark _)) (pss_one (ps_ret (pe_cmpR op_eq (pe_cmpR opx_ltV (pe_ix ix_tup (pe_ixC ix_tup (pv 1) pe_int (fun _ _ => rfl)) (pv 3) (fun _ _ => rfl)) (pe_ix ix_tup (pe_ixC ix_tup (pv 2) pe_int (fun _ _ => rfl)) (pv 3) (fun _ _ => rfl)) (nomark _)) (pe_cmpRC op_eq (pv 4) (pe_gstr rfl (W.str 34 rfl)) (nomark _)) (nomark _)))) pss_nil)))
    (pss_one (ps_ret (pe_cmpR op_lt (pe_ixC ix_tup (pv 1) pe_int (fun _ _ => rfl)) (pe_ixC ix_tup (pv 2) pe_int (fun _ _ => rfl)) (nomark _)))))
theorem sc_Room_is_less : FnScope N_Room_is_less P_Room_is_less (defScope s_Room_is_less) := ⟨rfl, rfl, rfl, by decide +kernel, rfl, by decide +kernel, by decide +kernel⟩
theorem ok_Room_is_less (W : Wd K mg base) : Can P w K mg base 2 ("Room", some "is_less") P_Room_is_less (sp_Room_is_less K) := by
  obtain ⟨fd, F⟩ := W.c.def_ 15 (d := d_Room_is_less) rfl
  refine can_of F (F.bindsN fun _ _ _ _ _ _ us hl => match us, hl with | [_, _, _], _ => rfl) sc_Room_is_less (fun vs H Q E h => by unfold sp_Room_is_less at h; match vs, h with | [_, _, _], _ => rfl) (t_Room_is_less K) (fun cdv A outer s H E hr => ?_) (pure_Room_is_less W.txt_Room)
  have nd := sc_Room_is_less.nd
  exact (pss_cons (ps_if (pt_cmpR op_ne (pe_ixC ix_tup (pv 1) pe_int (fun _ _ => rfl)) (pe_ixC ix_tup (pv 2) pe_int (fun _ _ => rfl)) (nomark _)) (pss_one (ps_ret (pe_cmpR op_lt (pe_ixC ix_tup (pv 1) pe_int (fun _ _ => rfl)) (pe_ixC ix_tup (pv 2) pe_int (fun _ _ => rfl)) (nomark _)))) pss_nil)
    (pss_one (ps_ret (pe_callC (ok_is_before W) (hr.mono (by decide)) rfl (W.glo 35 rfl) (passes_call (takes_of rfl rfl rfl rfl) (fun _ _ _ _ h => h)) (pa_cons (pe_fl (pv 0) rfl) (pa_cons (pe_ixC ix_tup (pv 1) pe_int (fun _ _ => rfl)) (pa_cons (pe_ixC ix_tup (pv 2) pe_int (fun _ _ => rfl)) pa_nil)))))))
theorem sc_Room_lesser : FnScope N_Room_lesser P_Room_lesser (defScope s_Room_lesser) := ⟨rfl, rfl, rfl, by decide +kernel, rfl, by decide +kernel, by decide +kernel⟩
theorem ok_Room_lesser (W : Wd K mg base) : Can P w K mg base 3 ("Room", some "lesser") P_Room_lesser (sp_Room_lesser K) := by
  obtain ⟨fd, F⟩ := W.c.def_ 16 (d := d_Room_lesser) rfl
  refine can_of F (F.bindsN fun _ _ _ _ _ _ us hl => match us, hl with | [_, _], _ => rfl) sc_Room_lesser (fun vs H Q E h => by unfold sp_Room_lesser at h; match vs, h with | [_, _], _ => rfl) (t_Room_lesser K) (fun cdv A outer s H E hr => ?_) (pure_Room_lesser W.txt_Room)
  have nd := sc_Room_lesser.nd
  exact (pss_cons (ps_setLc (i := 2) (own := [("place", 3)]) rfl nd rfl rfl (sw_true rfl rfl rfl (by decide +kernel)) (pi_tup (pe_tup (pa_cons (pe_opC op_add (pe_opD op_mul pe_int (pv 1)) pe_int) (pa_cons (pe_opC op_add (pe_opD op_mul pe_int (pv 1)) pe_int) pa_nil)))) (blkOk_by (own := [("place", 3)]) (N := N_Room_lesser) (sc := defScope s_Room_lesser) (by decide +kernel)) (fun _ _ _ _ _ => (pg_name (i := 3) nd rfl (Or.inl rfl))) (fun _ _ _ _ _ => (pts_one (pt_cmpR op_lt (pv 3) (pe_callB1 call_len_seq (by rfl) (W.free 1 rfl) (by decide +kernel) (pe_fl (pv 0) rfl)) (nomark _)))) (fun _ _ _ _ _ => (pv 3)))
    (pss_cons (ps_if (PW.pt (pw_and (pt_cmpRC op_eq (pe_callB1 call_len_seq (by rfl) (W.free 1 rfl) (by decide +kernel) (pv 2)) pe_int (nomark _)) (pw_and1 (pt_val (pe_methC (pv 0) (W.cls 37 rfl) (W.meth 36 rfl) (ok_Room_is_less W) (hr.mono (by decide)) (passes_call (takes_of rfl rfl rfl rfl) (fun _ _ _ _ h => h)) (pa_cons (pe_ix ix_list (pe_fl (pv 0) rfl) (pe_ixC ix_list (pv 2) pe_int (fun _ _ => rfl)) (fun _ _ => rfl)) (pa_cons (pe_ix ix_list (pe_fl (pv 0) rfl) (pe_ixC ix_list (pv 2) pe_int (fun _ _ => rfl)) (fun _ _ => rfl)) pa_nil))))))) (pss_one (ps_ret (pe_ixC ix_list (pv 2) pe_int (fun _ _ => rfl)))) pss_nil)
    (pss_one (ps_ret (pe_ifExp (pt_cmpR (opx_neE (hu_of hr)) (pv 2) (pe_lst pa_nil) (nomark _)) (pe_ixC ix_list (pv 2) pe_int (fun _ _ => rfl)) pe_non)))))
theorem sc_Room_take : FnScope N_Room_take P_Room_take (defScope s_Room_take) := ⟨rfl, rfl, rfl, by decide +kernel, rfl, by decide +kernel, by decide +kernel⟩
theorem ok_Room_take (W : Wd K mg base) : Can P w K mg base 4 ("Room", some "take") P_Room_take (sp_Room_take K) := by
  obtain ⟨fd, F⟩ := W.c.def_ 17 (d := d_Room_take) rfl
  refine can_of F (F.bindsN fun _ _ _ _ _ _ us hl => match us, hl with | [_], _ => rfl) sc_Room_take (fun vs H Q E h => by unfold sp_Room_take at h; match vs, h with | [_], _ => rfl) (t_Room_take K) (fun cdv A outer s H E hr => ?_) (pure_Room_take W.txt_Room)
  have nd := sc_Room_take.nd
  exact (pss_cons (ps_expr (pe_methC (pv 0) (W.cls 37 rfl) (W.meth 38 rfl) (ok_Room_swap W) (hr.mono (by decide)) (passes_call (takes_of rfl rfl rfl rfl) (fun _ _ _ _ h => h)) (pa_consC pe_int (pa_cons (pe_opC op_sub (pe_callB1 call_len_seq (by rfl) (W.free 1 rfl) (by decide +kernel) (pe_fl (pv 0) rfl)) pe_int) pa_nil))))
    (pss_cons (ps_set (i := 1) nd rfl (Or.inl rfl) (pe_bm0 PySem.F.plainAttrs_list PySem.F.slot_list_pop PySem.F.type_list_pop mt_pop (pe_fl (pv 0) rfl)))
    (pss_cons (ps_set (i := 2) nd rfl (Or.inl rfl) pe_int)
    (pss_cons (ps_set (i := 3) nd rfl (Or.inl rfl) (pe_methC (pv 0) (W.cls 37 rfl) (W.meth 39 rfl) (ok_Room_lesser W) (hr.mono (by decide)) (passes_call (takes_of rfl rfl rfl rfl) (fun _ _ _ _ h => h)) (pa_cons (pv 2) pa_nil)))
    (pss_cons (ps_while (passes_of rfl) (PW.pt (pw_and (pt_cmpRC op_notN1 (pv 3) pe_non (nomark _)) (pw_and1 (pt_val (pe_methC (pv 0) (W.cls 37 rfl) (W.meth 36 rfl) (ok_Room_is_less W) (hr.mono (by decide)) (passes_call (takes_of rfl rfl rfl rfl) (fun _ _ _ _ h => h)) (pa_cons (pe_ix ix_list (pe_fl (pv 0) rfl) (pv 3) (fun _ _ => rfl)) (pa_cons (pe_ix ix_list (pe_fl (pv 0) rfl) (pv 2) (fun _ _ => rfl)) pa_nil))))))) (pss_cons (ps_expr (pe_methC (pv 0) (W.cls 37 rfl) (W.meth 38 rfl) (ok_Room_swap W) (hr.mono (by decide)) (passes_call (takes_of rfl rfl rfl rfl) (fun _ _ _ _ h => h)) (pa_cons (pv 2) (pa_cons (pv 3) pa_nil))))
    (pss_cons (ps_set (i := 2) nd rfl (Or.inl rfl) (pv 3))
    (pss_one (ps_set (i := 3) nd rfl (Or.inl rfl) (pe_methC (pv 0) (W.cls 37 rfl) (W.meth 39 rfl) (ok_Room_lesser W) (hr.mono (by decide)) (passes_call (takes_of rfl rfl rfl rfl) (fun _ _ _ _ h => h)) (pa_cons (pv 2) pa_nil)))))))
    (pss_one (ps_ret (pv 1))))))))
theorem sc_Room_many_in : FnScope N_Room_many_in P_Room_many_in (defScope s_Room_many_in) := ⟨rfl, rfl, rfl, by decide +kernel, rfl, by decide +kernel, by decide +kernel⟩
theorem ok_Room_many_in (W : Wd K mg base) : Can P w K mg base 1 ("Room", some "many_in") P_Room_many_in (sp_Room_many_in K) := by
  obtain ⟨fd, F⟩ := W.c.def_ 18 (d := d_Room_many_in) rfl
  refine can_of F (F.bindsN fun _ _ _ _ _ _ us hl => match us, hl with | [_], _ => rfl) sc_Room_many_in (fun vs H Q E h => by unfold sp_Room_many_in at h; match vs, h with | [_], _ => rfl) (t_Room_many_in K) (fun cdv A outer s H E hr => ?_) (pure_Room_many_in W.txt_Room)
  have nd := sc_Room_many_in.nd
  exact (pss_one (ps_ret (pe_callB1 call_len_seq (by rfl) (W.free 1 rfl) (by decide +kernel) (pe_fl (pv 0) rfl))))
theorem sc_Sieve_takeX : FnScope N_Sieve_takeX P_Sieve_takeX (defScope s_Sieve_takeX) := ⟨rfl, rfl, rfl, by decide +kernel, rfl, by decide +kernel, by decide +kernel⟩
theorem ok_Sieve_takeX (W : Wd K mg base) : Can P w K mg base 5 ("Sieve", some "take") P_Sieve_takeX (sp_Sieve_takeX K) := by
  obtain ⟨fd, F⟩ := W.c.def_ 19 (d := d_Sieve_takeX) rfl
  refine can_of F (F.bindsN fun _ _ _ _ _ _ us hl => match us, hl with | [_], _ => rfl) sc_Sieve_takeX (fun vs H Q E h => by unfold sp_Sieve_takeX at h; match vs, h with | [_], _ => rfl) (t_Sieve_takeX K) (fun cdv A outer s H E hr => ?_) (pure_Sieve_takeX W.txt_Sieve)
  have nd := sc_Sieve_takeX.nd
  exact (pss_cons (ps_if (pt_cmpRC op_eq (pe_methC0 (pe_fl (pv 0) rfl) (W.cls 37 rfl) (W.meth 40 rfl) (ok_Room_many_in W) (hr.mono (by decide)) (passes_call (takes_of rfl rfl rfl rfl) (fun _ _ _ _ h => h))) pe_int (nomark _)) (pss_one (ps_raiseE (W.exc 41 rfl) (W.glo 28 rfl) rfl rfl (takes_of rfl rfl rfl rfl))) pss_nil)
    (pss_one (ps_ret (pe_ixC ix_tup (pe_methC0 (pe_fl (pv 0) rfl) (W.cls 37 rfl) (W.meth 42 rfl) (ok_Room_take W) (hr.mono (by decide)) (passes_call (takes_of rfl rfl rfl rfl) (fun _ _ _ _ h => h))) pe_int (fun _ _ => rfl)))))
theorem sc_Room_put : FnScope N_Room_put P_Room_put (defScope s_Room_put) := ⟨rfl, rfl, rfl, by decide +kernel, rfl, by decide +kernel, by decide +kernel⟩
theorem ok_Room_put (W : Wd K mg base) : Can P w K mg base 3 ("Room", some "put") P_Room_put (sp_Room_put K) := by
  obtain ⟨fd, F⟩ := W.c.def_ 20 (d := d_Room_put) rfl
  refine can_of F (F.bindsN fun _ _ _ _ _ _ us hl => match us, hl with | [_, _, _], _ => rfl) sc_Room_put (fun vs H Q E h => by unfold sp_Room_put at h; match vs, h with | [_, _, _], _ => rfl) (t_Room_put K) (fun cdv A outer s H E hr => ?_) (pure_Room_put W.txt_Room)
  have nd := sc_Room_put.nd
  exact (pss_cons (ps_expr (pe_bm PySem.F.plainAttrs_list PySem.F.slot_list_append PySem.F.type_list_append mt_append (pe_fl (pv 0) rfl) (pa_cons (pe_tup (pa_cons (pv 1) (pa_cons (pv 2) pa_nil))) pa_nil)))
    (pss_cons (ps_set (i := 3) nd rfl (Or.inl rfl) (pe_opC op_sub (pe_callB1 call_len_seq (by rfl) (W.free 1 rfl) (by decide +kernel) (pe_fl (pv 0) rfl)) pe_int))
    (pss_one (ps_while (passes_of rfl) (PW.pt (pw_and (pt_cmpRC op_gt (pv 3) pe_int (nomark _)) (pw_and1 (pt_val (pe_methC (pv 0) (W.cls 37 rfl) (W.meth 36 rfl) (ok_Room_is_less W) (hr.mono (by decide)) (passes_call (takes_of rfl rfl rfl rfl) (fun _ _ _ _ h => h)) (pa_cons (pe_ix ix_list (pe_fl (pv 0) rfl) (pv 3) (fun _ _ => rfl)) (pa_cons (pe_ix ix_list (pe_fl (pv 0) rfl) (pe_opC op_fdivW (pe_opC op_sub (pv 3) pe_int) pe_int) (fun _ _ => rfl)) pa_nil))))))) (pss_cons (ps_expr (pe_methC (pv 0) (W.cls 37 rfl) (W.meth 38 rfl) (ok_Room_swap W) (hr.mono (by decide)) (passes_call (takes_of rfl rfl rfl rfl) (fun _ _ _ _ h => h)) (pa_cons (pv 3) (pa_cons (pe_opC op_fdivW (pe_opC op_sub (pv 3) pe_int) pe_int) pa_nil))))
    (pss_one (ps_set (i := 3) nd rfl (Or.inl rfl) (pe_opC op_fdivW (pe_opC op_sub (pv 3) pe_int) pe_int))))))))
theorem sc_Room___init__ : FnScope N_Room___init__ P_Room___init__ (defScope s_Room___init__) := ⟨rfl, rfl, rfl, by decide +kernel, rfl, by decide +kernel, by decide +kernel⟩
theorem ok_Room___init__ (W : Wd K mg base) : Can P w K mg base 1 ("Room", some "__init__") P_Room___init__ (sp_Room___init__ K) := by
  obtain ⟨fd, F⟩ := W.c.def_ 21 (d := d_Room___init__) rfl
  refine can_of F (F.bindsN fun _ _ _ _ _ _ us hl => match us, hl with | [_, _], _ => rfl) sc_Room___init__ (fun vs H Q E h => by unfold sp_Room___init__ at h; match vs, h with | [_, _], _ => rfl) (t_Room___init__ K) (fun cdv A outer s H E hr => ?_) (pure_Room___init__ W.txt_Room)
  have nd := sc_Room___init__.nd
  exact (pss_cons (ps_fl (pv 0) (pv 1) rfl)
    (pss_one (ps_fl (pv 0) (pe_lst pa_nil) rfl)))
theorem sc_need_kinds : FnScope N_need_kinds P_need_kinds (defScope s_need_kinds) := ⟨rfl, rfl, rfl, by decide +kernel, rfl, by decide +kernel, by decide +kernel⟩
theorem ok_need_kinds (W : Wd K mg base) : Can P w K mg base 1 ("need_kinds", none) P_need_kinds (sp_need_kinds K) := by
  obtain ⟨fd, F⟩ := W.c.def_ 22 (d := d_need_kinds) rfl
  refine can_of F (F.bindsN fun _ _ _ _ _ _ us hl => match us, hl with | [_], _ => rfl) sc_need_kinds (fun vs H Q E h => by unfold sp_need_kinds at h; match vs, h with | [_], _ => rfl) (t_need_kinds K) (fun cdv A outer s H E hr => ?_) (pure_need_kinds)
  have nd := sc_need_kinds.nd
  exact (pss_one (ps_if (PW.pt (pw_or (pt_not (pt_chain op_le op_le pe_int (pe_callB1 call_len_seq (by rfl) (W.free 1 rfl) (by decide +kernel) (pv 0)) (pe_gint rfl (W.int 43 rfl)))) (pw_or1 (pt_cmpR (opx_neE (hu_of hr)) (pe_lc (own := [("kind", 1)]) rfl nd (pi_tup (pv 0)) (blkOk_by (own := [("kind", 1)]) (N := N_need_kinds) (sc := defScope s_need_kinds) (by decide +kernel)) (fun _ _ _ _ _ => (pg_name (i := 1) nd rfl (Or.inl rfl))) (fun _ _ _ _ _ => (pts_one (pt_cmpR op_notIn_seq (pv 1) (pe_tup (pa_consC (pe_gstr rfl (W.str 44 rfl)) (pa_consC (pe_gstr rfl (W.str 45 rfl)) pa_nil))) (by rfl)))) (fun _ _ _ _ _ => (pv 1))) (pe_lst pa_nil) (nomark _))))) (pss_one ps_never) pss_nil))
theorem sc_is_turn : FnScope N_is_turn P_is_turn (defScope s_is_turn) := ⟨rfl, rfl, rfl, by decide +kernel, rfl, by decide +kernel, by decide +kernel⟩
theorem ok_is_turn (W : Wd K mg base) : Can P w K mg base 1 ("is_turn", none) P_is_turn (sp_is_turn K) := by
  obtain ⟨fd, F⟩ := W.c.def_ 23 (d := d_is_turn) rfl
  refine can_of F (F.bindsN fun _ _ _ _ _ _ us hl => match us, hl with | [_, _], _ => rfl) sc_is_turn (fun vs H Q E h => by unfold sp_is_turn at h; match vs, h with | [_, _], _ => rfl) (t_is_turn K) (fun cdv A outer s H E hr => ?_) (pure_is_turn)
  have nd := sc_is_turn.nd
  exact (pss_one (ps_ret (pe_and (pe_cmpRC op_eq (pe_callB1 call_len_seq (by rfl) (W.free 1 rfl) (by decide +kernel) (pv 1)) pe_int (nomark _)) (pe_and (pe_chain op_le op_lt pe_int (pe_ixC ix_tup (pv 1) pe_int (fun _ _ => rfl)) (pe_callB1 call_len_seq (by rfl) (W.free 1 rfl) (by decide +kernel) (pv 0))) (pe_one (pe_cmpR op_in_seq (pe_ixC ix_tup (pv 1) pe_int (fun _ _ => rfl)) (pe_tup (pa_consC (pe_gstr rfl (W.str 34 rfl)) (pa_consC (pe_gstr rfl (W.str 46 rfl)) pa_nil))) (by rfl)))))))
theorem sc_need_order : FnScope N_need_order P_need_order (defScope s_need_order) := ⟨rfl, rfl, rfl, by decide +kernel, rfl, by decide +kernel, by decide +kernel⟩
theorem ok_need_order (W : Wd K mg base) : Can P w K mg base 2 ("need_order", none) P_need_order (sp_need_order K) := by
  obtain ⟨fd, F⟩ := W.c.def_ 24 (d := d_need_order) rfl
  refine can_of F (F.bindsN fun _ _ _ _ _ _ us hl => match us, hl with | [_, _], _ => rfl) sc_need_order (fun vs H Q E h => by unfold sp_need_order at h; match vs, h with | [_, _], _ => rfl) (t_need_order K) (fun cdv A outer s H E hr => ?_) (pure_need_order)
  have nd := sc_need_order.nd
  exact (pss_cons (ps_setLc (i := 2) (own := [("turn", 3)]) rfl nd rfl rfl (sw_true rfl rfl rfl (by decide +kernel)) (pi_list (pv 1)) (blkOk_by (own := [("turn", 3)]) (N := N_need_order) (sc := defScope s_need_order) (by decide +kernel)) (fun _ _ _ _ _ => (pg_name (i := 3) nd rfl (Or.inl rfl))) (fun _ _ _ _ _ => (pts_one (pt_val (pe_callC (ok_is_turn W) (hr.mono (by decide)) rfl (W.glo 47 rfl) passL (pa_cons (pv 0) (pa_cons (pv 3) pa_nil)))))) (fun _ _ _ _ _ => (pv 3)))
    (pss_one (ps_if (PW.pt (pw_or (pt_cmpRC op_eq (pe_callB1 call_len_seq (by rfl) (W.free 1 rfl) (by decide +kernel) (pv 2)) pe_int (nomark _)) (pw_or (pt_cmpR op_ne (pe_callB1 call_len_seq (by rfl) (W.free 1 rfl) (by decide +kernel) (pv 2)) (pe_callB1 call_len_seq (by rfl) (W.free 1 rfl) (by decide +kernel) (pv 1)) (nomark _)) (pw_or1 (pt_cmpR op_ne (pe_lenSetX rfl (W.free 1 rfl) rfl (W.free 48 rfl) (pe_lc (own := [("turn", 3)]) rfl nd (pi_list (pv 2)) (blkOk_by (own := [("turn", 3)]) (N := N_need_order) (sc := defScope s_need_order) (by decide +kernel)) (fun _ _ _ _ _ => (pg_name (i := 3) nd rfl (Or.inl rfl))) (fun _ _ _ _ _ => pts_nil) (fun _ _ _ _ _ => (pe_ixC ix_tup (pv 3) pe_int (fun _ _ => rfl))))) (pe_callB1 call_len_seq (by rfl) (W.free 1 rfl) (by decide +kernel) (pv 2)) (nomark _)))))) (pss_one ps_never) pss_nil)))
theorem sc_Sieve___init__ : FnScope N_Sieve___init__ P_Sieve___init__ (defScope s_Sieve___init__) := ⟨rfl, rfl, rfl, by decide +kernel, rfl, by decide +kernel, by decide +kernel⟩
theorem ok_Sieve___init__ (W : Wd K mg base) : Can P w K mg base 3 ("Sieve", some "__init__") P_Sieve___init__ (sp_Sieve___init__ K) := by
  obtain ⟨fd, F⟩ := W.c.def_ 25 (d := d_Sieve___init__) rfl
  refine can_of F (F.bindsN fun _ _ _ _ _ _ us hl => match us, hl with | [_, _, _], _ => rfl) sc_Sieve___init__ (fun vs H Q E h => by unfold sp_Sieve___init__ at h; match vs, h with | [_, _, _], _ => rfl) (t_Sieve___init__ K) (fun cdv A outer s H E hr => ?_) (pure_Sieve___init__ W.txt_Sieve)
  have nd := sc_Sieve___init__.nd
  exact (pss_cons (ps_expr (pe_callC (ok_need_kinds W) (hr.mono (by decide)) rfl (W.glo 49 rfl) (passes_call (takes_of rfl rfl rfl rfl) (fun _ _ _ _ h => h)) (pa_cons (pv 1) pa_nil)))
    (pss_cons (ps_expr (pe_callC (ok_need_order W) (hr.mono (by decide)) rfl (W.glo 50 rfl) (passes_call (takes_of rfl rfl rfl rfl) (fun _ _ _ _ h => h)) (pa_cons (pv 1) (pa_cons (pv 2) pa_nil))))
    (pss_cons (ps_fl (pv 0) (pe_callTy1 call_tuple_of (by rfl) (W.free 5 rfl) (by decide +kernel) (pv 1)) rfl)
    (pss_cons (ps_fl (pv 0) (pe_makeC (W.mkr 51 rfl) (ok_Room___init__ W) (hr.mono (by decide)) rfl (W.glo 52 rfl) (passes_call (takes_of rfl rfl rfl rfl) (fun _ _ _ _ h => h)) (pa_cons (pe_callTy1 call_list_of (by rfl) (W.free 0 rfl) (by decide +kernel) (pv 2)) pa_nil)) rfl)
    (pss_one (ps_fl (pv 0) pe_int rfl))))))
abbrev N_BadText___init__ : List Str := ["self", "place"]
abbrev P_BadText___init__ : List Str := ["self", "place"]
theorem sc_BadText___init__ : FnScope N_BadText___init__ P_BadText___init__ (defScope s_BadText___init__) := ⟨rfl, rfl, rfl, by decide +kernel, rfl, by decide +kernel, by decide +kernel⟩
theorem ok_BadText___init__ (W : Wd K mg base) : Can P w K mg base 1 ("BadText", some "__init__") P_BadText___init__ (sp_einit K "place") := by
  obtain ⟨fd, F⟩ := W.c.def_ 26 (d := d_BadText___init__) rfl
  refine can_of F (F.bindsN fun _ _ _ _ _ _ us hl => match us, hl with | [_, _], _ => rfl) sc_BadText___init__ (fun vs H Q E h => by unfold sp_einit at h; match vs, h with | [_, _], _ => rfl) (fun _ => t_einit K "place" "a bad word") (fun cdv A outer s H E hr => ?_) (pure_einit rfl)
  have nd := sc_BadText___init__.nd
  exact (pss_cons (ps_expr (pe_binit (W.em 0 rfl).base rfl (W.glo 31 rfl) (pa_cons (pv 0) (pa_consC pe_str pa_nil))))
    (pss_one (ps_ost (pv 0) (pv 1))))
abbrev N_BadRuns___init__ : List Str := ["self", "number"]
abbrev P_BadRuns___init__ : List Str := ["self", "number"]
theorem sc_BadRuns___init__ : FnScope N_BadRuns___init__ P_BadRuns___init__ (defScope s_BadRuns___init__) := ⟨rfl, rfl, rfl, by decide +kernel, rfl, by decide +kernel, by decide +kernel⟩
theorem ok_BadRuns___init__ (W : Wd K mg base) : Can P w K mg base 1 ("BadRuns", some "__init__") P_BadRuns___init__ (sp_einit K "number") := by
  obtain ⟨fd, F⟩ := W.c.def_ 27 (d := d_BadRuns___init__) rfl
  refine can_of F (F.bindsN fun _ _ _ _ _ _ us hl => match us, hl with | [_, _], _ => rfl) sc_BadRuns___init__ (fun vs H Q E h => by unfold sp_einit at h; match vs, h with | [_, _], _ => rfl) (fun _ => t_einit K "number" "no runs") (fun cdv A outer s H E hr => ?_) (pure_einit rfl)
  have nd := sc_BadRuns___init__.nd
  exact (pss_cons (ps_expr (pe_binit (W.em 1 rfl).base rfl (W.glo 31 rfl) (pa_cons (pv 0) (pa_consC pe_str pa_nil))))
    (pss_one (ps_ost (pv 0) (pv 1))))
abbrev N_BadRows___init__ : List Str := ["self", "place"]
abbrev P_BadRows___init__ : List Str := ["self", "place"]
theorem sc_BadRows___init__ : FnScope N_BadRows___init__ P_BadRows___init__ (defScope s_BadRows___init__) := ⟨rfl, rfl, rfl, by decide +kernel, rfl, by decide +kernel, by decide +kernel⟩
theorem ok_BadRows___init__ (W : Wd K mg base) : Can P w K mg base 1 ("BadRows", some "__init__") P_BadRows___init__ (sp_einit K "place") := by
  obtain ⟨fd, F⟩ := W.c.def_ 28 (d := d_BadRows___init__) rfl
  refine can_of F (F.bindsN fun _ _ _ _ _ _ us hl => match us, hl with | [_, _], _ => rfl) sc_BadRows___init__ (fun vs H Q E h => by unfold sp_einit at h; match vs, h with | [_, _], _ => rfl) (fun _ => t_einit K "place" "no rows") (fun cdv A outer s H E hr => ?_) (pure_einit rfl)
  have nd := sc_BadRows___init__.nd
  exact (pss_cons (ps_expr (pe_binit (W.em 2 rfl).base rfl (W.glo 31 rfl) (pa_cons (pv 0) (pa_consC pe_str pa_nil))))
    (pss_one (ps_ost (pv 0) (pv 1))))
theorem sc_is_value : FnScope N_is_value P_is_value (defScope s_is_value) := ⟨rfl, rfl, rfl, by decide +kernel, rfl, by decide +kernel, by decide +kernel⟩
theorem ok_is_value (W : Wd K mg base) : Can P w K mg base 1 ("is_value", none) P_is_value (sp_is_value K) := by
  obtain ⟨fd, F⟩ := W.c.def_ 29 (d := d_is_value) rfl
  refine can_of F (F.bindsN fun _ _ _ _ _ _ us hl => match us, hl with | [_, _], _ => rfl) sc_is_value (fun vs H Q E h => by unfold sp_is_value at h; match vs, h with | [_, _], _ => rfl) (t_is_value K) (fun cdv A outer s H E hr => ?_) (pure_is_value)
  have nd := sc_is_value.nd
  exact (pss_cons (ps_if (pt_cmpRC op_eq (pv 0) (pe_gstr rfl (W.str 45 rfl)) (nomark _)) (pss_cons (ps_if (PW.pt (pw_or (pt_not (pt_val (pe_isi (by rfl) (W.free 9 rfl) (pv 1) (pe_bltn (v := .ty "str") rfl (W.free 11 rfl) (by decide +kernel) rfl)))) (pw_or1 (pt_cmpRC op_gt (pe_callB1 call_len_str (by rfl) (W.free 1 rfl) (by decide +kernel) (pv 1)) (pe_gint rfl (W.int 53 rfl)) (nomark _))))) (pss_one (ps_ret pe_bl)) pss_nil)
    (pss_one (ps_ret (pe_cmpR (opx_eqE (hu_of hr)) (pe_lc (own := [("sign", 2)]) rfl nd (pi_str (pv 1)) (blkOk_by (own := [("sign", 2)]) (N := N_is_value) (sc := defScope s_is_value) (by decide +kernel)) (fun _ _ _ _ _ => (pg_name (i := 2) nd rfl (Or.inl rfl))) (fun _ _ _ _ _ => (pts_one (pt_cmpRC op_notInS (pv 2) (pe_gstr rfl (W.str 54 rfl)) (by rfl)))) (fun _ _ _ _ _ => (pv 2))) (pe_lst pa_nil) (nomark _))))) pss_nil)
    (pss_one (ps_ret (pe_and (pe_isi (by rfl) (W.free 9 rfl) (pv 1) (pe_bltn (v := .ty "int") rfl (W.free 2 rfl) (by decide +kernel) rfl)) (pe_and (pe_not (pe_isi (by rfl) (W.free 9 rfl) (pv 1) (pe_bltn (v := .ty "bool") rfl (W.free 10 rfl) (by decide +kernel) rfl))) (pe_one (pe_chain op_le op_le (pe_opC op_sub pe_int (pe_gint rfl (W.int 55 rfl))) (pv 1) (pe_gint rfl (W.int 55 rfl)))))))))
theorem sc_is_row : FnScope N_is_row P_is_row (defScope s_is_row) := ⟨rfl, rfl, rfl, by decide +kernel, rfl, by decide +kernel, by decide +kernel⟩
theorem ok_is_row (W : Wd K mg base) : Can P w K mg base 2 ("is_row", none) P_is_row (sp_is_row K) := by
  obtain ⟨fd, F⟩ := W.c.def_ 30 (d := d_is_row) rfl
  refine can_of F (F.bindsN fun _ _ _ _ _ _ us hl => match us, hl with | [_, _], _ => rfl) sc_is_row (fun vs H Q E h => by unfold sp_is_row at h; match vs, h with | [_, _], _ => rfl) (t_is_row K) (fun cdv A outer s H E hr => ?_) (pure_is_row)
  have nd := sc_is_row.nd
  exact (pss_cons (ps_if (pt_cmpR op_ne (pe_callB1 call_len_seq (by rfl) (W.free 1 rfl) (by decide +kernel) (pv 1)) (pe_callB1 call_len_seq (by rfl) (W.free 1 rfl) (by decide +kernel) (pv 0)) (nomark _)) (pss_one (ps_ret pe_bl)) pss_nil)
    (pss_one (ps_ret (pe_cmpR (opx_eqE (hu_of hr)) (pe_lc (own := [("k", 2)]) rfl nd (pi_range1 (by rfl) (W.free 4 rfl) (pa_cons (pe_callB1 call_len_seq (by rfl) (W.free 1 rfl) (by decide +kernel) (pv 0)) pa_nil)) (blkOk_by (own := [("k", 2)]) (N := N_is_row) (sc := defScope s_is_row) (by decide +kernel)) (fun _ _ _ _ _ => (pg_name (i := 2) nd rfl (Or.inl rfl))) (fun _ _ _ _ _ => (pts_one (pt_not (pt_val (pe_callC (ok_is_value W) (hr.mono (by decide)) rfl (W.glo 56 rfl) passL (pa_cons (pe_ix ix_tup (pv 0) (pv 2) (fun _ _ => rfl)) (pa_cons (pe_ix ix_tup (pv 1) (pv 2) (fun _ _ => rfl)) pa_nil))))))) (fun _ _ _ _ _ => (pv 2))) (pe_lst pa_nil) (nomark _)))))
theorem sc_need_rowsX : FnScope N_need_rowsX P_need_rowsX (defScope s_need_rowsX) := ⟨rfl, rfl, rfl, by decide +kernel, rfl, by decide +kernel, by decide +kernel⟩
theorem ok_need_rowsX (W : Wd K mg base) : Can P w K mg base 3 ("need_rows", none) P_need_rowsX (sp_need_rowsX K) := by
  obtain ⟨fd, F⟩ := W.c.def_ 31 (d := d_need_rowsX) rfl
  refine can_of F (F.bindsN fun _ _ _ _ _ _ us hl => match us, hl with | [_, _, _], _ => rfl) sc_need_rowsX (fun vs H Q E h => by unfold sp_need_rowsX at h; match vs, h with | [_, _, _], _ => rfl) (t_need_rowsX K) (fun cdv A outer s H E hr => ?_) (pure_need_rowsX)
  have nd := sc_need_rowsX.nd
  exact (pss_one (ps_for (passes_of rfl) rfl (pi_enum (by rfl) (W.free 57 rfl) (pa_cons (pv 1) pa_nil)) (pg_tup rfl (pgs_cons (pg_name (i := 3) nd rfl (Or.inl rfl)) (pgs_cons (pg_name (i := 4) nd rfl (Or.inl rfl)) pgs_nil))) (pss_one (ps_if (PW.pt (pw_or (pt_cmpR op_ge (pv 3) (pv 2) (nomark _)) (pw_or1 (pt_not (pt_val (pe_callC (ok_is_row W) (hr.mono (by decide)) rfl (W.glo 58 rfl) (passes_call (takes_of rfl rfl rfl rfl) (fun _ _ _ _ h => h)) (pa_cons (pv 0) (pa_cons (pv 4) pa_nil)))))))) (pss_one (ps_raiseX (W.em 2 rfl) (ok_BadRows___init__ W) (hr.mono (by decide)) rfl (W.glo 17 rfl) rfl (takes_of rfl rfl rfl rfl) (pa_cons (pv 3) pa_nil))) pss_nil))))
theorem sc_Sieve_putX : FnScope N_Sieve_putX P_Sieve_putX (defScope s_Sieve_putX) := ⟨rfl, rfl, rfl, by decide +kernel, rfl, by decide +kernel, by decide +kernel⟩
theorem ok_Sieve_putX (W : Wd K mg base) : Can P w K mg base 4 ("Sieve", some "put") P_Sieve_putX (sp_Sieve_putX K) := by
  obtain ⟨fd, F⟩ := W.c.def_ 32 (d := d_Sieve_putX) rfl
  refine can_of F (F.bindsN fun _ _ _ _ _ _ us hl => match us, hl with | [_, _], _ => rfl) sc_Sieve_putX (fun vs H Q E h => by unfold sp_Sieve_putX at h; match vs, h with | [_, _], _ => rfl) (t_Sieve_putX K) (fun cdv A outer s H E hr => ?_) (pure_Sieve_putX W.txt_Sieve)
  have nd := sc_Sieve_putX.nd
  exact (pss_cons (ps_expr (pe_callC (ok_need_rowsX W) (hr.mono (by decide)) rfl (W.glo 59 rfl) (passes_call (takes_of rfl rfl rfl rfl) (fun _ _ _ _ h => h)) (pa_cons (pe_fl (pv 0) rfl) (pa_cons (pe_lst (pa_cons (pv 1) pa_nil)) (pa_consC pe_int pa_nil)))))
    (pss_cons (ps_expr (pe_methC (pe_fl (pv 0) rfl) (W.cls 37 rfl) (W.meth 60 rfl) (ok_Room_put W) (hr.mono (by decide)) (passes_call (takes_of rfl rfl rfl rfl) (fun _ _ _ _ h => h)) (pa_consC pe_int (pa_cons (pe_tup (pa_cons (pe_fl (pv 0) rfl) (pa_cons (pv 1) pa_nil))) pa_nil))))
    (pss_cons (ps_fl (pv 0) (pe_opC op_add (pe_fl (pv 0) rfl) pe_int) rfl)
    (pss_one (ps_ret (pe_opC op_sub (pe_fl (pv 0) rfl) pe_int))))))
theorem sc_law_deed : FnScope N_law_deed P_law_deed (defScope s_law_deed) := ⟨rfl, rfl, rfl, by decide +kernel, rfl, by decide +kernel, by decide +kernel⟩
theorem ok_law_deed (W : Wd K mg base) : Can P w K mg base 47 ("_law_deed", none) P_law_deed (sp_law_deed K) := by
  obtain ⟨fd, F⟩ := W.c.def_ 33 (d := d_law_deed) rfl
  refine can_ofM F (F.bindsN fun _ _ _ _ _ _ us hl => match us, hl with | [_, _, _, _, _], _ => rfl) sc_law_deed (fun vs H Q E h => by unfold sp_law_deed at h; match vs, h with | [_, _, _, _, _], _ => rfl) (t_law_deed K) (fun A outer s H E hr => ?_) (pure_law_deed (W.err 0 rfl) (W.em 2 rfl) (W.err 1 rfl))
  have nd := sc_law_deed.nd
  exact ⟨[_, _], (pss_cons (ps_asg (pv 4) (pg_lst rfl (pgs_cons (pg_name (i := 5) nd rfl (Or.inr rfl)) (pgs_cons (pg_name (i := 6) nd rfl (Or.inl rfl)) (pgs_cons (pg_name (i := 7) nd rfl (Or.inl rfl)) pgs_nil)))))
    (pss_cons (ps_set (i := 8) nd rfl (Or.inl rfl) (pe_callC (ok_law_take W) (hr.mono (by decide)) rfl (W.glo 3 rfl) (passes_call (takes_of rfl rfl rfl rfl) (fun _ _ _ _ h => h)) (pa_cons (pv 0) (pa_consC pe_int pa_nil))))
    (pss_cons (ps_if (PW.pt (pw_and (pt_cmpRC op_lt (pv 8) pe_int (nomark _)) (pw_and1 (pt_cmpR op_lt (pv 7) (pe_callB1 call_len_seq (by rfl) (W.free 1 rfl) (by decide +kernel) (pv 3)) (nomark _))))) (pss_cons (ps_asg (pe_callC (ok_law_sorted W) (hr.mono (by decide)) rfl (W.glo 61 rfl) (passes_call (takes_of rfl rfl rfl rfl) (fun _ _ _ _ h => h)) (pa_cons (pv 2) (pa_cons (pe_op op_cat (pv 6) (pe_lst (pa_cons (pe_tup (pa_cons (pv 7) (pa_cons (pe_ix ix_list (pv 3) (pv 7) (fun _ _ => rfl)) pa_nil))) pa_nil))) pa_nil))) (pg_subC (pv 4) pe_int set_list))
    (pss_cons (ps_asg (pe_opC op_add (pv 7) pe_int) (pg_subC (pv 4) pe_int set_list))
    (pss_one (ps_ret (pe_callC (ok_law_alike W) (hr.mono (by decide)) rfl (W.glo 12 rfl) (passes_call (takes_of rfl rfl rfl rfl) (fun _ _ _ _ h => h)) (pa_cons (pe_methC (pv 5) (W.cls 63 rfl) (W.meth 62 rfl) (ok_Sieve_putX W) (hr.mono (by decide)) (passes_call (takes_of rfl rfl rfl rfl) (fun _ _ _ _ h => h)) (pa_cons (pe_ix ix_list (pv 3) (pv 7) (fun _ _ => rfl)) pa_nil)) (pa_cons (pv 7) pa_nil))))))) pss_nil)
    (pss_cons (ps_if (pt_cmpRC op_eq (pv 8) pe_int (nomark _)) (pss_cons (ps_set (i := 9) nd rfl (Or.inr rfl) (pe_callC (ok_law_bad_row W) (hr.mono (by decide)) rfl (W.glo 64 rfl) (passes_call (takes_of rfl rfl rfl rfl) (fun _ _ _ _ h => h)) (pa_cons (pv 0) (pa_cons (pv 1) (pa_cons (pe_callTy1 call_tuple_of (by rfl) (W.free 5 rfl) (by decide +kernel) (pe_lc (own := [("_law_kind", 10)]) rfl nd (pi_tup (pv 1)) (blkOk_by (own := [("_law_kind", 10)]) (N := N_law_deed) (sc := defScope s_law_deed) (by decide +kernel)) (fun _ _ _ _ _ => (pg_name (i := 10) nd rfl (Or.inl rfl))) (fun _ _ _ _ _ => pts_nil) (fun _ _ _ _ _ => (pe_callC (ok_law_value W) (hr.mono (by decide)) rfl (W.glo 6 rfl) passL (pa_cons (pv 0) (pa_cons (pv 10) pa_nil)))))) pa_nil)))))
    (pss_one (ps_ret (pe_allC (k := 4) (all_law_all W) (told_law_told W) rfl (hr.mono (by decide)) (hr.mono (by decide)) (pa_cons (pe_lst (pa_cons (pe_lamM (T := Lms_k01) (p0 := ("_law_deed", none)) (j := 0) W.tab (List.mem_cons_self) rfl rfl (by show lamSB (defScope s_law_deed) _ = true; decide +kernel) rfl) pa_nil)) (pa_cons (pe_tup (pa_consC pe_str (pa_consC pe_int pa_nil))) pa_nil)) (lams_put (j := 0) rfl rfl rfl (by show lamSB (defScope s_law_deed) _ = true; decide +kernel) (fun _ _ _ => rfl) (fun _ _ _ _ E _ _ hr => (pe_methC (pv 5) (W.cls 63 rfl) (W.meth 62 rfl) (ok_Sieve_putX W) (hr.mono (by decide)) (passes_call (takes_of rfl rfl rfl rfl) (fun _ _ _ _ h => h)) (pa_cons (pv 9) pa_nil))) lams_nil))))) pss_nil)
    (pss_cons (ps_if (pt_cmpR (opx_eqE (hu_of hr)) (pv 6) (pe_lst pa_nil) (nomark _)) (pss_one (ps_ret (pe_allC (k := 5) (all_law_all W) (told_law_told W) rfl (hr.mono (by decide)) (hr.mono (by decide)) (pa_cons (pe_lst (pa_cons (pe_lamM (T := Lms_k01) (p0 := ("_law_deed", none)) (j := 1) W.tab (List.mem_cons_self) rfl rfl (by show lamSB (defScope s_law_deed) _ = true; decide +kernel) rfl) pa_nil)) (pa_cons (pe_tup (pa_consC pe_str (pa_consC pe_int pa_nil))) pa_nil)) (lams_put (j := 1) rfl rfl rfl (by show lamSB (defScope s_law_deed) _ = true; decide +kernel) (fun _ _ _ => rfl) (fun _ _ _ _ E _ _ hr => (pe_methC0 (pv 5) (W.cls 63 rfl) (W.meth 65 rfl) (ok_Sieve_takeX W) (hr.mono (by decide)) (passes_call (takes_of rfl rfl rfl rfl) (fun _ _ _ _ h => h)))) lams_nil)))) pss_nil)
    (pss_one (ps_ret (pe_callC (ok_law_alike W) (hr.mono (by decide)) rfl (W.glo 12 rfl) (passes_call (takes_of rfl rfl rfl rfl) (fun _ _ _ _ h => h)) (pa_cons (pe_methC0 (pv 5) (W.cls 63 rfl) (W.meth 65 rfl) (ok_Sieve_takeX W) (hr.mono (by decide)) (passes_call (takes_of rfl rfl rfl rfl) (fun _ _ _ _ h => h))) (pa_cons (pe_bm PySem.F.plainAttrs_list PySem.F.slot_list_pop PySem.F.type_list_pop mt_popAt (pv 6) (pa_consC pe_int pa_nil)) pa_nil))))))))))⟩
theorem sc_Sieve_remains : FnScope N_Sieve_remains P_Sieve_remains (defScope s_Sieve_remains) := ⟨rfl, rfl, rfl, by decide +kernel, rfl, by decide +kernel, by decide +kernel⟩
theorem ok_Sieve_remains (W : Wd K mg base) : Can P w K mg base 2 ("Sieve", some "remains") P_Sieve_remains (sp_Sieve_remains K) := by
  obtain ⟨fd, F⟩ := W.c.def_ 34 (d := d_Sieve_remains) rfl
  refine can_of F (F.bindsN fun _ _ _ _ _ _ us hl => match us, hl with | [_], _ => rfl) sc_Sieve_remains (fun vs H Q E h => by unfold sp_Sieve_remains at h; match vs, h with | [_], _ => rfl) (t_Sieve_remains K) (fun cdv A outer s H E hr => ?_) (pure_Sieve_remains W.txt_Sieve)
  have nd := sc_Sieve_remains.nd
  exact (pss_one (ps_ret (pe_methC0 (pe_fl (pv 0) rfl) (W.cls 37 rfl) (W.meth 40 rfl) (ok_Room_many_in W) (hr.mono (by decide)) (passes_call (takes_of rfl rfl rfl rfl) (fun _ _ _ _ h => h)))))
theorem sc_law : FnScope N_law P_law (defScope s_law) := ⟨rfl, rfl, rfl, by decide +kernel, rfl, by decide +kernel, by decide +kernel⟩
theorem fn_law (W : Wd K mg base) {fd : FuncData} (F : FunD K d_law.name d_law.qual d_law.params d_law.body d_law.scope [] [] (He.fAd K d_law.at_) fd) : FnOk P w K mg base (L2.CX P w) 48 (He.fAd K d_law.at_) fd P_law (sp_law K) := by
  refine F.ok sc_law (fun vs H Q E h => by unfold sp_law at h; match vs, h with | [_], _ => rfl) (fun cdv A outer s H vs Q E hr hsp => ⟨t_law K E, ?_, pure_law vs H Q E hsp⟩)
  have nd := sc_law.nd
  exact (pss_cons (ps_set (i := 1) nd rfl (Or.inl rfl) (pe_callC (ok_law_begun W) (hr.mono (by decide)) rfl (W.glo 66 rfl) (passes_call (takes_of rfl rfl rfl rfl) (fun _ _ _ _ h => h)) (pa_cons (pv 0) pa_nil)))
    (pss_cons (ps_set (i := 2) nd rfl (Or.inl rfl) (pe_callC (ok_law_kinds W) (hr.mono (by decide)) rfl (W.glo 67 rfl) (passes_call (takes_of rfl rfl rfl rfl) (fun _ _ _ _ h => h)) (pa_cons (pv 1) pa_nil)))
    (pss_cons (ps_set (i := 3) nd rfl (Or.inl rfl) (pe_callC (ok_law_order W) (hr.mono (by decide)) rfl (W.glo 68 rfl) (passes_call (takes_of rfl rfl rfl rfl) (fun _ _ _ _ h => h)) (pa_cons (pv 1) (pa_cons (pv 2) pa_nil))))
    (pss_cons (ps_set (i := 4) nd rfl (Or.inl rfl) (pe_lst pa_nil))
    (pss_cons (ps_for (passes_of rfl) rfl (pi_range1 (by rfl) (W.free 4 rfl) (pa_consC pe_int pa_nil)) (pg_name (i := 5) nd rfl (Or.inl rfl)) (pss_cons (ps_set (i := 6) nd rfl (Or.inl rfl) (pe_callTy1 call_list_of (by rfl) (W.free 0 rfl) (by decide +kernel) (pv 3)))
    (pss_cons (ps_expr (pe_bm PySem.F.plainAttrs_list PySem.F.slot_list_append PySem.F.type_list_append mt_append (pv 4) (pa_cons (pe_lst (pa_cons (pe_makeC (W.mkr 69 rfl) (ok_Sieve___init__ W) (hr.mono (by decide)) rfl (W.glo 70 rfl) (passes_call (takes_of rfl rfl rfl rfl) (fun _ _ _ _ h => h)) (pa_cons (pv 2) (pa_cons (pv 6) pa_nil))) (pa_cons (pe_lst pa_nil) (pa_consC pe_int pa_nil)))) pa_nil)))
    (pss_one (ps_expr (pe_bm0 PySem.F.plainAttrs_list PySem.F.slot_list_clear PySem.F.type_list_clear mt_clear (pv 6)))))))
    (pss_cons (ps_set (i := 7) nd rfl (Or.inl rfl) (pe_callC (ok_law_rows W) (hr.mono (by decide)) rfl (W.glo 71 rfl) (passes_call (takes_of rfl rfl rfl rfl) (fun _ _ _ _ h => h)) (pa_cons (pv 1) (pa_cons (pv 2) (pa_consC pe_int pa_nil)))))
    (pss_cons (ps_for (passes_of rfl) rfl (pi_range1 (by rfl) (W.free 4 rfl) (pa_cons (pe_callC (ok_law_take W) (hr.mono (by decide)) rfl (W.glo 3 rfl) (passes_call (takes_of rfl rfl rfl rfl) (fun _ _ _ _ h => h)) (pa_cons (pv 1) (pa_consC pe_int pa_nil))) pa_nil)) (pg_name (i := 8) nd rfl (Or.inl rfl)) (pss_cons (ps_if (pt_not (pt_val (pe_callC (ok_law_deed W) (hr.mono (by decide)) rfl (W.glo 72 rfl) (passes_call (takes_of rfl rfl rfl rfl) (fun _ _ _ _ h => h)) (pa_cons (pv 1) (pa_cons (pv 2) (pa_cons (pv 3) (pa_cons (pv 7) (pa_cons (pe_ix ix_list (pv 4) (pe_opC op_fdivW (pe_callC (ok_law_take W) (hr.mono (by decide)) rfl (W.glo 3 rfl) (passes_call (takes_of rfl rfl rfl rfl) (fun _ _ _ _ h => h)) (pa_cons (pv 1) (pa_consC pe_int pa_nil))) pe_int) (fun _ _ => rfl)) pa_nil)))))))) (pss_one (ps_ret pe_bl)) pss_nil)
    (pss_one (ps_if (pt_not (pt_val (pe_callC (ok_law_alike W) (hr.mono (by decide)) rfl (W.glo 12 rfl) (passes_call (takes_of rfl rfl rfl rfl) (fun _ _ _ _ h => h)) (pa_cons (pe_lc (own := [("_law_side", 9)]) rfl nd (pi_list (pv 4)) (blkOk_by (own := [("_law_side", 9)]) (N := N_law) (sc := defScope s_law) (by decide +kernel)) (fun _ _ _ _ _ => (pg_name (i := 9) nd rfl (Or.inl rfl))) (fun _ _ _ _ _ => pts_nil) (fun _ _ _ _ _ => (pe_methC0 (pe_ixC ix_list (pv 9) pe_int (fun _ _ => rfl)) (W.cls 63 rfl) (W.meth 73 rfl) (ok_Sieve_remains W) (hr.mono (by decide)) passL))) (pa_cons (pe_lc (own := [("_law_side", 9)]) rfl nd (pi_list (pv 4)) (blkOk_by (own := [("_law_side", 9)]) (N := N_law) (sc := defScope s_law) (by decide +kernel)) (fun _ _ _ _ _ => (pg_name (i := 9) nd rfl (Or.inl rfl))) (fun _ _ _ _ _ => pts_nil) (fun _ _ _ _ _ => (pe_callB1 call_len_seq (by rfl) (W.free 1 rfl) (by decide +kernel) (pe_ixC ix_list (pv 9) pe_int (fun _ _ => rfl))))) pa_nil))))) (pss_one (ps_ret pe_bl)) pss_nil))))
    (pss_cons (ps_for (passes_of rfl) rfl (pi_list (pv 4)) (pg_name (i := 9) nd rfl (Or.inl rfl)) (pss_one (ps_while (passes_of rfl) (pt_cmpR (opx_neE (hu_of hr)) (pe_ixC ix_list (pv 9) pe_int (fun _ _ => rfl)) (pe_lst pa_nil) (nomark _)) (pss_one (ps_if (pt_not (pt_val (pe_callC (ok_law_alike W) (hr.mono (by decide)) rfl (W.glo 12 rfl) (passes_call (takes_of rfl rfl rfl rfl) (fun _ _ _ _ h => h)) (pa_cons (pe_methC0 (pe_ixC ix_list (pv 9) pe_int (fun _ _ => rfl)) (W.cls 63 rfl) (W.meth 65 rfl) (ok_Sieve_takeX W) (hr.mono (by decide)) (passes_call (takes_of rfl rfl rfl rfl) (fun _ _ _ _ h => h))) (pa_cons (pe_bm PySem.F.plainAttrs_list PySem.F.slot_list_pop PySem.F.type_list_pop mt_popAt (pe_ixC ix_list (pv 9) pe_int (fun _ _ => rfl)) (pa_consC pe_int pa_nil)) pa_nil))))) (pss_one (ps_ret pe_bl)) pss_nil)))))
    (pss_one (ps_ret pe_bl))))))))))
end
end Lw
namespace Lw
open PySem PySem.Spec PyProof.Rows L2 Rs
/-- a promise that holds whatever may be raised: nothing is -/
theorem calm {P : Program} {w : World} {K : PySem.W.Frag} {mg : Str → Option Value} {base : Heap} {k : Nat} {f : Addr} {fd : FuncData} {ps : List Str} {sp : Sp} (F : FnOk P w K mg base (L2.CX P w) k f fd ps sp) (hE : ∀ vs H Q E, sp vs H Q E → sp vs H Q E0) : FnOk P w K mg base CX0 k f fd ps sp :=
  ⟨F.len, fun A outer s H args us vs Q E hr he hb hv hs => codeAny_mono (F.run A outer s H args us vs Q E0 hr he hb hv (hE _ _ _ _ hs)) fun r s' h => by
    cases r with
    | error e =>
      obtain ⟨_, _, _, _, _, _, _, _, _, _, _, _, hf⟩ := h
      exact hf.elim
    | ok fl => cases fl <;> exact h⟩
end Lw
open PySem PySem.W PySem.Calls PyProof.Rows
theorem PySem.Challenge.cw_runsorts_k01_sieves_holds : PySem.Challenge.rw_runsorts_k01_sieves.Holds := by
  w_on; o_law
  refine HandSHeadRun.head_any (r := OpenLaw.row PySem.Challenge.rw_runsorts_k01_sieves) (q := view (OpenLaw.row PySem.Challenge.rw_runsorts_k01_sieves).prog [53]) (H := Lw.hk) (ob := Lw.ob) (M := 15000) (loose := Lw.loose) (d := HandSHeadRun.topDef (OpenLaw.row PySem.Challenge.rw_runsorts_k01_sieves).prog 53) (kwd := []) Lw.ob_eq
    (by kernel_rfl) (fun s => by kernel_rfl) Lw.run (by kernel_rfl) (by kernel_rfl) (by kernel_rfl) (by rfl) (by first | assumption | decide +kernel) (by decide +kernel) ⟨rfl, rfl, rfl, rfl, rfl, by decide +kernel⟩ ?hw ?hc
  case hw => w_witness2
  case hc =>
    refine LamX.walk_ofTsE (l := PySem.Challenge.rw_runsorts_k01_sieves) (n := 63) (k := 48) (x := "_law_script") (CX := fun _ => L2.CX0) rfl (by decide) (by kernel_rfl) ⟨rfl, by decide, by decide⟩ ?F (fun _ _ _ _ _ z => z)
    intro w mg fa h Y G hmg0
    obtain ⟨K, KX, c⟩ := Y
    have hmg : mg ("law" : PySem.Str) = some (.ref fa) := by
      have e : (HandSHeadRun.topDef (OpenLaw.row PySem.Challenge.rw_runsorts_k01_sieves).prog 53).name = ("law" : PySem.Str) := by kernel_rfl
      rw [← e]
      exact hmg0
    obtain ⟨fd, F⟩ := c.m.def_ 35 (d := Lw.d_law) rfl
    have e := hmg.symm.trans (He.glo_ok KX G (Lw.says_fact c.m 74 (f := .glo "law") rfl))
    cases e
    have b := L2.FunD.bindsA (ps := ["_law_script"]) F fun _ _ _ _ _ _ us hl => match us, hl with | [_], _ => rfl
    refine ⟨K, KX, fd, Lw.tf.map fun p => He.cT K p, Rs.sp_law K, ?_, ?_, ?_, fun s v => b s [v] rfl, fun H a ns hl _ hT hS => ⟨a, ns, rfl, hS, hl, ?_, fun _ => rfl⟩, fun base _ _ TB => Lw.calm (Lw.fn_law ⟨c.m, ⟨h, KX, G⟩, ⟨?_, Lw.nodup_tabs c.m⟩⟩ F) fun vs H Q E h => h⟩
    · intro p hp
      obtain ⟨q, hq, rfl⟩ := List.mem_map.mp hp
      exact c.empty q hq
    · intro p hp
      obtain ⟨q, hq, rfl⟩ := List.mem_map.mp hp
      exact c.out q hq
    · intro p hp
      obtain ⟨q, hq, rfl⟩ := List.mem_map.mp hp
      exact PySem.W.codeHd_of_K KX (c.hd q hq)
    · exact Lw.tabs_start H fun q hq => hT _ (List.mem_map.mpr ⟨q, hq, rfl⟩)
    · intro p hp
      exact TB _ (List.mem_map.mpr ⟨p.1, Lw.lms_tf p hp, rfl⟩)
