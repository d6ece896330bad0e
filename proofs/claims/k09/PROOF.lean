import PyProof.Rows.All
import Wide.All
import OpenK.AllK
import Wide.FinOn
import KE.KStateDown
import Lean
import HandS.ForMost
import HandS.ForExc
import HandS.Flow
import HandS.Wide
import HandS.TupAny
import HandS.Zip
import HandS.IsInst
import HandS.Steps
import HandS.More
import HandS.Conv
import HandS.Deep
import HandS.Walk
import HandS.Defaults
import HandS.Head0
import HandS.Head1
import HandS.Head2
import HandS.HeadEnd
import HandS.HeadHook1
import HandS.HeadHook2
import HandS.Exc
import HandS.ExcOwn
import HandS.TryOnly
import HandS.Style
import HandS.SortRule
import HandS.SortInts
import HandS.Dict
import HandS.DictTup
import HandS.TupLen
import KE.KTupSum
import HandS.Codes
import KE.LtData
import HandS.Ends
import HandS.Words
import HandS.WordsExc
import PySem.Challenge.RW_runsorts_k09_whole_neighbours
set_option Elab.async false
set_option linter.all false
set_option maxRecDepth 100000
set_option maxHeartbeats 4000000
/-! rules and words of our own over the hand layer -/
namespace Rs
open PySem PySem.Spec PyProof.Rows L2

/-! ### the readings of operators by short names -/
abbrev xAdd : R2 := rI0 fun i j => .int (i + j)
abbrev xSub : R2 := rI0 fun i j => .int (i - j)
abbrev xMul : R2 := rI CMul fun i j => .int (i * j)
abbrev xDiv : R2 := rI CDivW fun i j => .int (i / j)
abbrev xMod : R2 := rI (fun _ j => 0 < j) fun i j => .int (i % j)
abbrev xPow : R2 := rI CPow fun i j => .int (i ^ j.toNat)
abbrev xAddS : R2 := fun x y H Q => ∃ i j, x = .str i ∧ y = .str j ∧ i.length + j.length ≤ sizeLine ∧ Q (.str (i ++ j)) H
abbrev xNeg : V → Hp → VK → Prop := rU fun i => .int (-i)
abbrev xLt : R2 := rI0 fun i j => .bl (decide (i < j))
abbrev xLe : R2 := rI0 fun i j => .bl (decide (i ≤ j))
abbrev xGt : R2 := rI0 fun i j => .bl (decide (j < i))
abbrev xGe : R2 := rI0 fun i j => .bl (decide (j ≤ i))
abbrev xLtS : R2 := fun x y H Q => ∃ i j, x = .str i ∧ y = .str j ∧ Q (.bl (decide (i.cps.toList < j.cps.toList))) H
abbrev xGtS : R2 := fun x y H Q => ∃ i j, x = .str i ∧ y = .str j ∧ Q (.bl (decide (j.cps.toList < i.cps.toList))) H
/-- two ints, or two texts -/
def xLtV : R2 := fun x y H Q => xLt x y H Q ∨ xLtS x y H Q
def xGtV : R2 := fun x y H Q => xGt x y H Q ∨ xGtS x y H Q
abbrev xLen (K : PySem.W.Frag) : List V → Hp → VK → Prop := fun xs H Q => ∃ p ys, xs = [.ref p] ∧ (SqL K H p ys ∨ SqT K H p ys) ∧ Q (.int ys.length) H
abbrev xLenS : List V → Hp → VK → Prop := fun xs H Q => ∃ z, xs = [.str z] ∧ z.length ≤ sizeLine ∧ Q (.int z.length) H
abbrev xLenD : List V → Hp → VK → Prop := fun xs H Q => ∃ a kvs, xs = [V.ref a] ∧ H a = some (.dK kvs) ∧ Q (.int kvs.length) H
abbrev xInt : List V → Hp → VK → Prop := fun xs H Q => (∃ i, xs = [.int i] ∧ Q (.int i) H) ∨ ∃ k, xs = [.bl k] ∧ Q (.int (if k then 1 else 0)) H
abbrev xIntS : List V → Hp → VK → Prop := fun xs H Q => ∃ a n, xs = [.str a] ∧ PySem.intText? a = some n ∧ a.length ≤ 640 ∧ Q (.int n) H
abbrev xStr : List V → Hp → VK → Prop := fun xs H Q => ∃ i, xs = [.int i] ∧ i.natAbs.log2 < 1920 ∧ Q (.str (toString i)) H
abbrev xList (K : PySem.W.Frag) : List V → Hp → VK → Prop := fun xs H Q => ∃ p ys, xs = [.ref p] ∧ (SqL K H p ys ∨ SqT K H p ys) ∧ ∀ l, H l = none → Q (.ref l) (upd H l (.lst ys))
abbrev xTuple (K : PySem.W.Frag) : List V → Hp → VK → Prop := fun xs H Q => ∃ p ys, xs = [.ref p] ∧ ((SqL K H p ys ∧ ∀ l, H l = none → Q (.ref l) (upd H l (.tup ys))) ∨ (SqT K H p ys ∧ Q (.ref p) H))
abbrev xMax2 : List V → Hp → VK → Prop := fun xs H Q => ∃ i j, xs = [.int i, .int j] ∧ Q (.int (if j > i then j else i)) H
abbrev xMin2 : List V → Hp → VK → Prop := fun xs H Q => ∃ i j, xs = [.int i, .int j] ∧ Q (.int (if j < i then j else i)) H
abbrev xInsert : V → List V → Hp → VK → Prop := fun x vs H Q => ∃ (l : Addr) (xs : List V) (i : Int) (y : V), x = .ref l ∧ vs = [.int i, y] ∧ H l = some (.lst xs) ∧ xs.length < sizeLine ∧ 0 ≤ i ∧ i < 2 ^ 63 ∧ Q .non (upd H l (.lst (xs.take i.toNat ++ [y] ++ xs.drop i.toNat)))
abbrev xJoin (K : PySem.W.Frag) : V → List V → Hp → VK → Prop := fun x xs H Q => ∃ a p, ∃ ys : List Str, x = .str a ∧ xs = [.ref p] ∧ (SqL K H p (ys.map V.str) ∨ SqT K H p (ys.map V.str)) ∧ (ys.map (·.length)).sum + ys.length * a.length ≤ 16777216 ∧ Q (.str (Txt.join a ys)) H
abbrev xSplit : V → List V → Hp → VK → Prop := fun x xs H Q => ∃ a b, x = .str a ∧ xs = [.str b] ∧ (b.length == 0) = false ∧ a.length + 2 ≤ sizeLine ∧ rNewStrs (Txt.split a b) H Q
abbrev rSlTA (K : PySem.W.Frag) : V → Option Int → Option Int → Hp → VK → Prop := rSlA K
/-- == with an empty list on one side -/
def xEqE (K : PySem.W.Frag) : R2 := fun x y H Q => ∃ a b xs ys, x = .ref a ∧ y = .ref b ∧ SqL K H a xs ∧ SqL K H b ys ∧ (xs = [] ∨ ys = []) ∧ Q (.bl (decide (xs.length = ys.length))) H
def xNeE (K : PySem.W.Frag) : R2 := fun x y H Q => ∃ a b xs ys, x = .ref a ∧ y = .ref b ∧ SqL K H a xs ∧ SqL K H b ys ∧ (xs = [] ∨ ys = []) ∧ Q (.bl (!decide (xs.length = ys.length))) H
section
variable {X : Cx}
theorem opx_ltV : OpR X (compareOp .Lt) xLtV := OpR.or op_lt op_lt_str
theorem opx_gtV : OpR X (compareOp .Gt) xGtV := OpR.or op_gt op_gt_str
end
theorem hu64 {A : Around} {k : Nat} (hr : Room k A) : A.units + 64 < cLine := hr.units
theorem hu65 {A : Around} {k : Nat} (hr : Room k A) : A.units + 65 < cLine := by have := hr.un; omega
theorem hu0 {A : Around} {k : Nat} (hr : Room k A) : A.units < cLine := hr.units0

/-! ### constants put in place -/
def tOpC (r : R2) (ta : TE) (v : V) : TE := fun σ H Q => ta σ H fun x H1 => r x v H1 Q
def tOpD (r : R2) (v : V) (tb : TE) : TE := fun σ H Q => tb σ H fun y H1 => r v y H1 Q
def tConsC (v : V) (tr : TA) : TA := fun σ H Q => tr σ H fun xs H1 => Q (v :: xs) H1
def gSubC (to : TE) (i : V) (t : TSet) : TG := fun v σ H Q => to σ H fun o H1 => t o i v H1 fun H3 => Q σ H3
section
variable {X : Cx} {a b e : Expr} {es : List Expr} {r : R2} {ta tb : TE} {t : TA} {v : V} {pos : Pos}
theorem pe_opC {op : Operator} (ho : OpR X (binaryOp op) r) (ha : PE X a ta) (hb : PE X b (tC v)) : PE X (.BinOp a op b pos) (tOpC r ta v) := pe_op ho ha hb
theorem pe_opD {op : Operator} (ho : OpR X (binaryOp op) r) (ha : PE X a (tC v)) (hb : PE X b tb) : PE X (.BinOp a op b pos) (tOpD r v tb) := pe_op ho ha hb
theorem pe_cmpRC {op : CmpOp} (ho : OpR X (compareOp op) r) (ha : PE X a ta) (hb : PE X b (tC v)) (hm : behindInMarks op b = false) : PE X (.Compare a [op] [b] pos) (tOpC r ta v) := pe_cmpR ho ha hb hm
theorem pe_cmpRD {op : CmpOp} (ho : OpR X (compareOp op) r) (ha : PE X a (tC v)) (hb : PE X b tb) (hm : behindInMarks op b = false) : PE X (.Compare a [op] [b] pos) (tOpD r v tb) := pe_cmpR ho ha hb hm
theorem pt_cmpRC {op : CmpOp} (ho : OpR X (compareOp op) r) (ha : PE X a ta) (hb : PE X b (tC v)) (hm : behindInMarks op b = false) : PT X (.Compare a [op] [b] pos) (tTest (tOpC r ta v)) := pt_cmpR ho ha hb hm
theorem pt_cmpRD {op : CmpOp} (ho : OpR X (compareOp op) r) (ha : PE X a (tC v)) (hb : PE X b tb) (hm : behindInMarks op b = false) : PT X (.Compare a [op] [b] pos) (tTest (tOpD r v tb)) := pt_cmpR ho ha hb hm
theorem pe_ixC (hr : IxR X r) (ha : PE X a ta) (hb : PE X b (tC v)) (hs : PlainIx b) : PE X (.Subscript a b pos) (tOpC r ta v) := pe_ix hr ha hb hs
theorem pe_ixD (hr : IxR X r) (ha : PE X a (tC v)) (hb : PE X b tb) (hs : PlainIx b) : PE X (.Subscript a b pos) (tOpD r v tb) := pe_ix hr ha hb hs
theorem pa_consC (he : PE X e (tC v)) (hr : PA X es t) (h : starEach (e :: es) X.env = (false, eval e X.env) :: starEach es X.env := by rfl) : PA X (e :: es) (tConsC v t) := pa_cons he hr h
theorem pe_unN {i : Int} (ha : PE X a (tC (.int i))) : PE X (.UnaryOp .USub a pos) (tC (.int (-i))) := by
  refine ⟨fun pins s σ H Q I h => (pe_un un_neg ha).run pins s σ H Q I ?_⟩
  exact ⟨i, rfl, h⟩
theorem pg_subC {t : TSet} (ho : PE X a ta) (hi : PE X b (tC v)) (hs : PSet X t) (ha : ∀ v, assign (.Subscript a b pos) X.env v = (do
      let ov ← holding [v] (eval a X.env)
      let iv ← holding [v, ov] (eval b X.env)
      standAt pos
      holding [v, ov, iv] (setItem ov iv v)
      release [v, ov, iv] []) := by intro _; rfl) : PG X (.Subscript a b pos) (gSubC ta v t) := pg_sub ho hi hs ha
end
/-! ### == with an empty list -/
section
variable {X : Cx}
theorem two_lists {pins : List (Addr × Obj)} {σ : L2.St} {H : Hp} {s : Shared} {a b : Addr} {xs ys : List V} (I : Inv X pins σ H s) (h1 : SqL X.K H a xs) (h2 : SqL X.K H b ys) :
    ∃ i1 i2 : List Value, s.heap.IsList a i1.toArray ∧ s.heap.IsList b i2.toArray ∧ xs.length = i1.length ∧ ys.length = i2.length := by
  obtain ⟨i1, r1, ⟨o, n, ho, hc, _, hd⟩, _⟩ := I.list h1
  obtain ⟨i2, r2, ⟨o2, n2, ho2, hc2, _, hd2⟩, _⟩ := I.list h2
  exact ⟨i1, i2, ⟨o, ho, hc, n, hd⟩, ⟨o2, ho2, hc2, n2, hd2⟩, r1.length, r2.length⟩
theorem opx_eqE (hu : X.A.units + 1 < cLine) : OpR X (compareOp .Eq) (xEqE X.K) := by
  intro pins s σ H x y v u Q I rx ry h
  obtain ⟨a, b, xs, ys, rfl, rfl, h1, h2, he, q⟩ := h
  cases rx
  cases ry
  obtain ⟨i1, i2, p1, p2, l1, l2⟩ := two_lists I h1 h2
  show wpAny (model X.prog X.w) X.A (richCompare .Eq (.ref a) (.ref b)) _ _ s
  by_cases e : xs.length = ys.length
  · rw [decide_eq_true e] at q
    have z : i1 = [] ∧ i2 = [] := by
      constructor <;> apply List.eq_nil_of_length_eq_zero <;> rcases he with he | he <;> subst he <;> simp at e l1 l2 <;> simp_all
    obtain ⟨z1, z2⟩ := z
    subst z1
    subst z2
    exact SeqAt.RcAt.lists (e := fun _ => true) p1 p2 rfl (by omega) (fun j h _ => absurd h (by simp)) _ _ _ _ ⟨.bl true, H, I, rfl, q⟩
  · rw [decide_eq_false e] at q
    exact SeqAt.RcAt.lists_lengths p1 p2 (by rw [List.size_toArray, List.size_toArray, ← l1, ← l2]; simpa using e) (by omega) _ _ _ _ ⟨.bl false, H, I, rfl, q⟩
theorem opx_neE (hu : X.A.units + 1 < cLine) : OpR X (compareOp .NotEq) (xNeE X.K) := by
  intro pins s σ H x y v u Q I rx ry h
  obtain ⟨a, b, xs, ys, rfl, rfl, h1, h2, he, q⟩ := h
  cases rx
  cases ry
  obtain ⟨i1, i2, p1, p2, l1, l2⟩ := two_lists I h1 h2
  show wpAny (model X.prog X.w) X.A (richCompare .NotEq (.ref a) (.ref b)) _ _ s
  by_cases e : xs.length = ys.length
  · rw [decide_eq_true e] at q
    have z : i1 = [] ∧ i2 = [] := by
      constructor <;> apply List.eq_nil_of_length_eq_zero <;> rcases he with he | he <;> subst he <;> simp at e l1 l2 <;> simp_all
    obtain ⟨z1, z2⟩ := z
    subst z1
    subst z2
    exact SeqAt.RcNeAt.lists (e := fun _ => true) p1 p2 rfl (by omega) (fun j h _ => absurd h (by simp)) _ _ _ _ ⟨.bl false, H, I, rfl, q⟩
  · rw [decide_eq_false e] at q
    exact SeqAt.RcNeAt.lists_lengths p1 p2 (by rw [List.size_toArray, List.size_toArray, ← l1, ← l2]; simpa using e) (by omega) _ _ _ _ ⟨.bl true, H, I, rfl, q⟩
end

/-! ### constants of the module, classes as values -/
section
variable {X : Cx} {x : Str} {pos : Pos}
theorem pe_gint {i : Int} (hg : Gl X x) (hm : ∃ t, X.mg x = some (.int i t)) (hd : (x == ("__debug__" : Str)) = false := by decide) : PE X (.Name x pos) (tC (.int i)) := by
  obtain ⟨t, e⟩ := hm
  exact pe_glob hg e ⟨t, rfl⟩ hd
theorem pe_gstr {z : Str} (hg : Gl X x) (hm : ∃ t, X.mg x = some (.str z t)) (hd : (x == ("__debug__" : Str)) = false := by decide) : PE X (.Name x pos) (tC (.str z)) := by
  obtain ⟨t, e⟩ := hm
  exact pe_glob hg e ⟨t, rfl⟩ hd
/-- isinstance(a, c), c a built-in class by its name -/
def tIsi (K : PySem.W.Frag) (c : String) (ta : TE) : TE := fun σ H Q => ta σ H fun x H1 => rIsi K [x, .ty c] H1 Q
theorem pe_isi {a b : Expr} {c : String} {ta : TE} {p pos : Pos} (hg : Gl X "isinstance") (hm : X.mg "isinstance" = none) (ha : PE X a ta) (hb : PE X b (tC (.ty c)))
    (e1 : starEach [a, b] X.env = (false, eval a X.env) :: starEach [b] X.env := by rfl) (e3 : starEach [b] X.env = (false, eval b X.env) :: starEach [] X.env := by rfl) (e2 : (backTo pos (starEach [b] X.env)).any (·.1) = false := by rfl) :
    PE X (.Call (.Name "isinstance" p) [a, b] [] pos) (tIsi X.K c ta) := pe_callB call_isi hg hm (by decide +kernel) (pa_cons ha (pa_cons hb pa_nil e3) e1) (by decide) (by decide) e1 e2
/-- a built-in called with one argument -/
def tCB1 (r : List V → Hp → VK → Prop) (ta : TE) : TE := fun σ H Q => ta σ H fun x H1 => r [x] H1 Q
theorem pe_callB1 {a : Expr} {ta : TE} {r : List V → Hp → VK → Prop} {id : String} {p : Pos} (hc : CallR X (.builtin id) r) (hg : Gl X x) (hm : X.mg x = none) (hv : bootBuiltins x = some (.builtin id)) (ha : PE X a ta) (hn : x ≠ "__name__" := by decide) (hd : (x == ("__debug__" : Str)) = false := by decide)
    (e1 : starEach [a] X.env = (false, eval a X.env) :: starEach [] X.env := by rfl) : PE X (.Call (.Name x p) [a] [] pos) (tCB1 r ta) := pe_callB hc hg hm hv (pa_cons ha pa_nil e1) hn hd e1 rfl
theorem pe_callTy1 {a : Expr} {ta : TE} {r : List V → Hp → VK → Prop} {T : String} {p : Pos} (hc : CallR X (.type T) r) (hg : Gl X x) (hm : X.mg x = none) (hv : bootBuiltins x = some (.type T)) (ha : PE X a ta) (hn : x ≠ "__name__" := by decide) (hd : (x == ("__debug__" : Str)) = false := by decide)
    (e1 : starEach [a] X.env = (false, eval a X.env) :: starEach [] X.env := by rfl) : PE X (.Call (.Name x p) [a] [] pos) (tCB1 r ta) := pe_callTy hc hg hm hv (pa_cons ha pa_nil e1) hn hd e1 rfl
theorem isi_go {K : PySem.W.Frag} {c t : String} {x : V} {H : Hp} {Q : VK} {b : Bool} (ty : TyX K H x (.type t)) (h : kitB t c = some b) (q : Q (.bl b) H) : rIsi K [x, .ty c] H Q :=
  ⟨x, .ty c, _, _, b, rfl, .ty c, ty, kit_ty h, q⟩
end

/-! ### len(set(a list of ints)), list(range(n)) -/
section
variable {X : Cx}
/-- how many unlike ones -/
def dcount (ns : List Int) : Nat := (PyProof.Rows.firstMet (fun i => ns.getD i 0) ns.length).length
theorem dcount_nodup {ns : List Int} (h : ns.Nodup) : dcount ns = ns.length := by
  unfold dcount
  rw [RZ.firstMet_nodup h ns.length (Nat.le_refl _), List.take_length]
def tLenSetX (K : PySem.W.Frag) (ta : TE) : TE := fun σ H Q => ta σ H fun x H1 => ∃ (l : Addr) (ns : List Int), x = .ref l ∧ SqL K H1 l (ns.map V.int) ∧ ns.length ≤ 4000 ∧ Q (.int (dcount ns : Nat)) H1
theorem pe_lenSetX {a : Expr} {ta : TE} {p p2 q pos : Pos} (hg : Gl X "len") (hm : X.mg "len" = none) (hg2 : Gl X "set") (hm2 : X.mg "set" = none) (ha : PE X a ta) (hc : X.calm = true := by rfl)
    (na : starEach [a] X.env = (false, eval a X.env) :: starEach [] X.env := by rfl) : PE X (.Call (.Name "len" p) [.Call (.Name "set" p2) [a] [] q] [] pos) (tLenSetX X.K ta) := by
  refine ⟨fun pins s σ H Q I h => ?_⟩
  refine Call_ (ld_blt I hg hm boot_len ?_)
  refine PyProof.Rows.callWith_builtin1 (PyProof.Rows.args_cons ?_ rfl) rfl rfl
  refine Call_ (ld_blt I hg2 hm2 PyProof.Rows.boot_set ?_)
  refine PyProof.Rows.callWith_type1 (PyProof.Rows.args_cons (thn (ha.run pins s σ H _ I h) fun v s1 ⟨x, H1, I1, r1, q1⟩ => PyProof.Rows.args_nil ?_) na) na rfl
  obtain ⟨l, ns, rfl, hq, hl, q1⟩ := q1
  cases r1
  obtain ⟨its, r, pl, hz⟩ := I1.list hq
  have hlen : its.toArray.size = ns.length := by rw [List.size_toArray, ← r.length, List.length_map]
  refine call_set_list (I1.ok.hd hc) pl.isList (by simpa using RZ.intsAre_vals r) (by rw [hlen]; unfold scanBound; omega) fun h' tk hS hk => ?_
  refine PyProof.Rows.args_nil ?_
  rw [hlen] at hS
  obtain ⟨o, es, ep, t, ho, hex, hd, _, _, _, hf, hn⟩ := hS
  have I2 : Inv X pins σ H1 { s1 with heap := h', toks := tk } := I1.kept fun b o e => hk b o (Heap.lt_size e) e
  have hle : dcount ns ≤ ns.length := PyProof.Rows.firstMet_length_le _ _
  have hn' : es.size = dcount ns := hn
  exact call_len_set ho hex hd hf (by rw [hn'] <;> omega) ⟨.int (dcount ns : Nat), H1, I2.tok _, ⟨_, by rw [hn'] <;> rfl⟩, q1⟩
end

/-! ### fields of instances -/
def rFld (K : PySem.W.Frag) (f : Str) (x : V) (H1 : Hp) (Q : VK) : Prop := ∃ a C dx fs v, x = .ref a ∧ H1 a = some (.ins C dx fs) ∧ Cls K C ∧ NoAttr K C f ∧ fs.lookup f = some v ∧ Q v H1
def tFl (K : PySem.W.Frag) (ta : TE) (f : Str) : TE := fun σ H Q => ta σ H fun x H1 => rFld K f x H1 Q
theorem pe_fl {X : Cx} {o : Expr} {ta : TE} {f : Str} {pos : Pos} (he : PE X o ta) (hb : attributeBase o f X.env (eval o X.env) = eval o X.env) : PE X (.Attribute o f pos) (tFl X.K ta f) := pe_fld he hb
def rSFl (K : PySem.W.Frag) (f : Str) (x y : V) (D : Ends) (σ : L2.St) (H2 : Hp) : Prop := ∃ a C dx fs, x = .ref a ∧ H2 a = some (.ins C dx fs) ∧ Cls K C ∧ NoAttr K C f ∧ fs.length < 1000 ∧ D.nx σ (upd H2 a (.ins C dx (putF f y fs)))
def sFl (K : PySem.W.Frag) (ta tv : TE) (f : Str) : TS := fun D σ H => tv σ H fun y H1 => ta σ H1 fun x H2 => rSFl K f x y D σ H2
theorem ps_fl {X : Cx} {o e : Expr} {ta tv : TE} {f : Str} {p pos : Pos} (he : PE X o ta) (hv : PE X e tv) (hb : swapsWith e (some (.Attribute o f p)) pos.line X.env = pure false) : PS X (.Assign [.Attribute o f p] e pos) (sFl X.K ta tv f) := ps_fld he hv hb
theorem lk_hd {a : Str} {x : V} {r : List (Str × V)} : ((a, x) :: r).lookup a = some x := by simp [List.lookup]
theorem lk_tl {a b : Str} {x : V} {r : List (Str × V)} (h : ¬ b = a) : ((a, x) :: r).lookup b = r.lookup b := by
  have e : (b == a) = false := by simpa using h
  simp [List.lookup, e]
theorem lk_nil {b : Str} : ([] : List (Str × V)).lookup b = none := rfl
theorem put_nil {a : Str} {v : V} : putF a v [] = [(a, v)] := rfl
theorem put_hd {a : Str} {x v : V} {r : List (Str × V)} : putF a v ((a, x) :: r) = (a, v) :: r := by
  show (if a = a then _ else _) = _
  rw [if_pos rfl]
theorem put_tl {a b : Str} {x v : V} {r : List (Str × V)} (h : ¬ a = b) : putF b v ((a, x) :: r) = (a, x) :: putF b v r := by
  show (if a = b then _ else _) = _
  rw [if_neg h]

/-! ### a def by what it can: its function object is left out -/
/-- the def at the place at (of the module's names) keeps the promise sp, by at most level k; exceptions may leave it -/
def Can (P : Program) (w : World) (K : PySem.W.Frag) (mg : Str → Option Value) (base : Heap) (k : Nat) (at_ : Str × Option Str) (ps : List Str) (sp : Sp) : Prop :=
  ∃ fd, FnOk P w K mg base (L2.CX P w) k (He.fAd K at_) fd ps sp ∧ Binds K fd ps [] ∧ PySem.W.keepIn K (.ref (He.fAd K at_)) = true
section
variable {P : Program} {w : World} {K : PySem.W.Frag} {mg : Str → Option Value} {base : Heap} {k : Nat} {at_ : Str × Option Str} {ps : List Str} {sp sp' : Sp}
theorem Can.mono {j : Nat} (F : Can P w K mg base j at_ ps sp) (h : j ≤ k) : Can P w K mg base k at_ ps sp := by
  obtain ⟨fd, F, b, kp⟩ := F
  exact ⟨fd, F.mono h, b, kp⟩
theorem Can.imp (F : Can P w K mg base k at_ ps sp) (h : ∀ vs H Q E, sp' vs H Q E → sp vs H Q E) : Can P w K mg base k at_ ps sp' := by
  obtain ⟨fd, F, b, kp⟩ := F
  exact ⟨fd, F.imp h, b, kp⟩
/-- tuples never change -/
def TupLe (H H' : Hp) : Prop := ∀ a xs, H a = some (.tup xs) → H' a = some (.tup xs)
theorem TupLe.refl (H : Hp) : TupLe H H := fun _ _ h => h
theorem TupLe.trans {H H1 H2 : Hp} (a : TupLe H H1) (b : TupLe H1 H2) : TupLe H H2 := fun x o h => b x o (a x o h)
theorem TupLe.same {H H' : Hp} (a : Same H H') : TupLe H H' := fun x o h => a x _ h
theorem TupLe.put {H H' : Hp} {p : Addr} {o : HO} (a : TupLe H H') (h : ∀ xs, H' p ≠ some (.tup xs)) : TupLe H (upd H' p o) := fun x xs e => by
  have e2 := a x xs e
  rw [upd_ne (fun z => by rw [z] at e2; exact h xs e2)]
  exact e2
/-- every promise may be had with: the tuples stand -/
def withTup (sp : Sp) : Sp := fun vs H Q E => sp vs H (fun v H' => TupLe H H' → Q v H') E
theorem Can.tups (F : Can P w K mg base k at_ ps sp) : Can P w K mg base k at_ ps (withTup sp) := by
  obtain ⟨fd, F, b, kp⟩ := F
  refine ⟨fd, ⟨fun vs H Q E h => F.len vs H _ E h, fun A outer s H args us vs Q E hr he hb hv hs => ?_⟩, b, kp⟩
  refine codeAny_mono (F.run A outer s H args us vs _ E hr he hb hv hs) fun r s' h => ?_
  cases r with
  | error e => exact h
  | ok fl =>
    cases fl with
    | ret u =>
      obtain ⟨v, H', os, bare, un, hok, rv, q⟩ := h
      exact ⟨v, H', os, bare, un, hok, rv, q un.tups⟩
    | next => exact h
    | brk => exact h
    | cont => exact h
end
section
variable {X : Cx} {k : Nat} {x C m : Str} {ps : List Str} {sp : Sp} {E : XK} {p pos apos : Pos} {e o : Expr} {es : List Expr} {ta : TE} {t : TA} {M : Option Str}
theorem pe_callC (F : Can X.prog X.w X.K X.mg X.base k (x, none) ps sp) (hr : Room k X.A) (hg : Gl X x) (hm : X.mg x = some (.ref (He.ga X.K x))) (hx : Passes (L2.CX X.prog X.w) X E)
    (ha : PA X (e :: es) t) (hdb : (x == ("__debug__" : Str)) = false := by decide) (he : starEach (e :: es) X.env = (false, eval e X.env) :: starEach es X.env := by rfl) (hpl : (backTo pos (starEach es X.env)).any (·.1) = false := by rfl) :
    PE X (.Call (.Name x p) (e :: es) [] pos) (tCall sp [] E t) := by
  obtain ⟨fd, F, b, kp⟩ := F
  exact pe_call F hr hg hm kp b .nil hx ha hdb he hpl
theorem pe_callC0 (F : Can X.prog X.w X.K X.mg X.base k (x, none) ps sp) (hr : Room k X.A) (hg : Gl X x) (hm : X.mg x = some (.ref (He.ga X.K x))) (hx : Passes (L2.CX X.prog X.w) X E)
    (hdb : (x == ("__debug__" : Str)) = false := by decide) : PE X (.Call (.Name x p) [] [] pos) (tCall sp [] E tNil) := by
  obtain ⟨fd, F, b, kp⟩ := F
  exact pe_call0 F hr hg hm kp b .nil hx hdb
theorem pe_methC {pl : Sem Bool} (he : PE X o ta) (c : Cls X.K (He.ga X.K C)) (hm : Meth X.K (He.ga X.K C) m (He.ma X.K (He.ga X.K C) m)) (F : Can X.prog X.w X.K X.mg X.base k (C, some m) ps sp) (hr : Room k X.A) (hx : Passes (L2.CX X.prog X.w) X E) (ha : PA X (e :: es) t)
    (hst : starEach (e :: es) X.env = (false, eval e X.env) :: starEach es X.env := by rfl) (hpl : (backTo pos (starEach es X.env)).any (·.1) = false := by rfl)
    (ht : eval (.Call (.Attribute o m apos) (e :: es) [] pos) X.env = (do
      let ov ← eval o X.env
      standAt apos.atName
      let (f, first) ← holding [ov] (getMethod ov m pl)
      callWith pos f first (backTo pos (starEach (e :: es) X.env)) (backToKw pos (keywordEach [] X.env))) := by rfl) :
    PE X (.Call (.Attribute o m apos) (e :: es) [] pos) (tMeth (He.ga X.K C) m sp [] E ta t) := by
  obtain ⟨fd, F, b, kp⟩ := F
  exact pe_meth he c hm F hr b .nil hx ha hst hpl ht
theorem pe_methC0 {pl : Sem Bool} (he : PE X o ta) (c : Cls X.K (He.ga X.K C)) (hm : Meth X.K (He.ga X.K C) m (He.ma X.K (He.ga X.K C) m)) (F : Can X.prog X.w X.K X.mg X.base k (C, some m) ps sp) (hr : Room k X.A) (hx : Passes (L2.CX X.prog X.w) X E)
    (ht : eval (.Call (.Attribute o m apos) [] [] pos) X.env = (do
      let ov ← eval o X.env
      standAt apos.atName
      let (f, first) ← holding [ov] (getMethod ov m pl)
      callWith pos f first (backTo pos (starEach [] X.env)) (backToKw pos (keywordEach [] X.env))) := by rfl) :
    PE X (.Call (.Attribute o m apos) [] [] pos) (tMeth (He.ga X.K C) m sp [] E ta tNil) := by
  obtain ⟨fd, F, b, kp⟩ := F
  exact pe_meth0 he c hm F hr b .nil hx ht
theorem pe_makeC (M : Mk X.K (He.ga X.K C) (He.ma X.K (He.ga X.K C) "__init__")) (F : Can X.prog X.w X.K X.mg X.base k (C, some "__init__") ps sp) (hr : Room (k + 1) X.A) (hg : Gl X C) (hm : X.mg C = some (.ref (He.ga X.K C))) (hx : Passes (L2.CX X.prog X.w) X E)
    (ha : PA X (e :: es) t) (hdb : (C == ("__debug__" : Str)) = false := by decide) (he : starEach (e :: es) X.env = (false, eval e X.env) :: starEach es X.env := by rfl) (hpl : (backTo pos (starEach es X.env)).any (·.1) = false := by rfl) :
    PE X (.Call (.Name C p) (e :: es) [] pos) (tMake (He.ga X.K C) sp [] E t) := by
  obtain ⟨fd, F, b, kp⟩ := F
  exact pe_make M F hr hg hm b .nil hx ha hdb he hpl
theorem pe_makeC0 (M : Mk X.K (He.ga X.K C) (He.ma X.K (He.ga X.K C) "__init__")) (F : Can X.prog X.w X.K X.mg X.base k (C, some "__init__") ps sp) (hr : Room (k + 1) X.A) (hg : Gl X C) (hm : X.mg C = some (.ref (He.ga X.K C))) (hx : Passes (L2.CX X.prog X.w) X E)
    (hdb : (C == ("__debug__" : Str)) = false := by decide) : PE X (.Call (.Name C p) [] [] pos) (tMake (He.ga X.K C) sp [] E tNil) := by
  obtain ⟨fd, F, b, kp⟩ := F
  exact pe_make0 M F hr hg hm b .nil hx hdb
end
/-- a def's body by its reading: from where it stands to what it can -/
theorem can_of {P : Program} {w : World} {K : PySem.W.Frag} {mg : Str → Option Value} {base : Heap} {k : Nat} {x qual : Str} {at_ : Str × Option Str} {params : Arguments} {body : List Stmt} {scope : Scope} {N ps : List Str} {sp : Sp} {fd : FuncData}
    (F : FunD K x qual params body scope [] [] (He.fAd K at_) fd) (b : Binds K fd ps []) (S : FnScope N ps scope) (len : ∀ vs H Q E, sp vs H Q E → vs.length = ps.length)
    (t : XK → TS) (h : ∀ (cdv : Value) (A : Around) (outer : List Env) (s : Shared) (H : Hp) (E : XK), Room k (A.deeper (envOfC qual scope s.heap.objs.size (He.fAd K at_) cdv)) →
      PSs (cxOf (L2.CX P w) P w K mg base N qual scope (He.fAd K at_) cdv A outer s H E) body (t E))
    (pure_ : ∀ vs H Q E, sp vs H Q E → t E { nx := fun _ H' => Q .non H', rt := Q } (start N vs) H) : Can P w K mg base (k + 1) at_ ps sp :=
  ⟨fd, F.ok S len fun cdv A outer s H vs Q E hr hsp => ⟨t E, h cdv A outer s H E hr, pure_ vs H Q E hsp⟩, b, F.kp⟩

theorem can_false {P : Program} {w : World} {K : PySem.W.Frag} {mg : Str → Option Value} {base : Heap} {k : Nat} {x qual : Str} {at_ : Str × Option Str} {params : Arguments} {body : List Stmt} {scope : Scope} {ps : List Str} {sp : Sp} {fd : FuncData}
    (F : FunD K x qual params body scope [] [] (He.fAd K at_) fd) (b : Binds K fd ps []) (h : ∀ vs H Q E, ¬ sp vs H Q E) : Can P w K mg base k at_ ps sp :=
  ⟨fd, ⟨fun vs H Q E q => (h vs H Q E q).elim, fun A outer s H args us vs Q E hr he hb hv hs => (h vs H Q E hs).elim⟩, b, F.kp⟩
/-- a def that calls itself: sp 0 is never asked -/
theorem can_rec {P : Program} {w : World} {K : PySem.W.Frag} {mg : Str → Option Value} {base : Heap} {lev : Nat} {x qual : Str} {at_ : Str × Option Str} {params : Arguments} {body : List Stmt} {scope : Scope} {N ps : List Str} {sp : Nat → Sp} {fd : FuncData}
    (F : FunD K x qual params body scope [] [] (He.fAd K at_) fd) (b : Binds K fd ps []) (S : FnScope N ps scope) (len : ∀ d vs H Q E, sp d vs H Q E → vs.length = ps.length) (no : ∀ vs H Q E, ¬ sp 0 vs H Q E)
    (t : Sp → XK → TS) (h : ∀ (d : Nat), Can P w K mg base (lev + d) at_ ps (sp d) → ∀ (cdv : Value) (A : Around) (outer : List Env) (s : Shared) (H : Hp) (E : XK), Room (lev + d) (A.deeper (envOfC qual scope s.heap.objs.size (He.fAd K at_) cdv)) →
      PSs (cxOf (L2.CX P w) P w K mg base N qual scope (He.fAd K at_) cdv A outer s H E) body (t (sp d) E))
    (pure_ : ∀ d vs H Q E, sp (d + 1) vs H Q E → t (sp d) E { nx := fun _ H' => Q .non H', rt := Q } (start N vs) H) : ∀ d, Can P w K mg base (lev + d) at_ ps (sp d)
  | 0 => can_false F b no
  | d + 1 => can_of F b S (len (d + 1)) (t (sp d)) (h d (can_rec F b S len no t h pure_ d)) (pure_ d)

end Rs

/-! data: rows, (number, row), orders, lists of these; what stays -/
namespace Rs
open PySem PySem.Spec PyProof.Rows L2
/-! ### two lists, one beside the other -/
section
variable {α β : Type} {F G : α → β → Prop}
theorem P2.get : ∀ {l : List α} {m : List β}, Paired F l m → ∀ {i : Nat} {a : α}, l[i]? = some a → ∃ b, m[i]? = some b ∧ F a b
  | _, _, .nil, _, _, e => by simp at e
  | _, _, .cons h t, 0, a, e => by simp at e; subst e; exact ⟨_, rfl, h⟩
  | _, _, .cons h t, i + 1, a, e => by simpa using P2.get t (i := i) (by simpa using e)
theorem P2.get' : ∀ {l : List α} {m : List β}, Paired F l m → ∀ {i : Nat} {b : β}, m[i]? = some b → ∃ a, l[i]? = some a ∧ F a b
  | _, _, .nil, _, _, e => by simp at e
  | _, _, .cons h t, 0, a, e => by simp at e; subst e; exact ⟨_, rfl, h⟩
  | _, _, .cons h t, i + 1, a, e => by simpa using P2.get' t (i := i) (by simpa using e)
theorem P2.mono (f : ∀ a b, F a b → G a b) : ∀ {l : List α} {m : List β}, Paired F l m → Paired G l m
  | _, _, .nil => .nil
  | _, _, .cons h t => .cons (f _ _ h) (P2.mono f t)
theorem P2.app : ∀ {l l' : List α} {m m' : List β}, Paired F l m → Paired F l' m' → Paired F (l ++ l') (m ++ m')
  | _, _, _, _, .nil, q => q
  | _, _, _, _, .cons h t, q => .cons h (P2.app t q)
theorem P2.one {a : α} {b : β} (h : F a b) : Paired F [a] [b] := .cons h .nil
theorem P2.take : ∀ (n : Nat) {l : List α} {m : List β}, Paired F l m → Paired F (l.take n) (m.take n)
  | 0, _, _, _ => .nil
  | _ + 1, _, _, .nil => .nil
  | n + 1, _, _, .cons h t => .cons h (P2.take n t)
theorem P2.drop : ∀ (n : Nat) {l : List α} {m : List β}, Paired F l m → Paired F (l.drop n) (m.drop n)
  | 0, _, _, q => q
  | _ + 1, _, _, .nil => .nil
  | n + 1, _, _, .cons h t => P2.drop n t
theorem P2.set {a : α} {b : β} (h : F a b) : ∀ (n : Nat) {l : List α} {m : List β}, Paired F l m → Paired F (l.set n a) (m.set n b)
  | _, _, _, .nil => .nil
  | 0, _, _, .cons _ t => .cons h t
  | n + 1, _, _, .cons q t => .cons q (P2.set h n t)
theorem P2.erase : ∀ (n : Nat) {l : List α} {m : List β}, Paired F l m → Paired F (l.eraseIdx n) (m.eraseIdx n)
  | _, _, _, .nil => .nil
  | 0, _, _, .cons _ t => t
  | n + 1, _, _, .cons q t => .cons q (P2.erase n t)
theorem P2.map {γ : Type} {f : γ → α} {g : γ → β} : ∀ (l : List γ), (∀ x ∈ l, F (f x) (g x)) → Paired F (l.map f) (l.map g)
  | [], _ => .nil
  | x :: l, h => .cons (h x (List.mem_cons_self ..)) (P2.map l fun y hy => h y (List.mem_cons_of_mem _ hy))
theorem P2.last {l : List α} {m : List β} {a : α} {b : β} (h : Paired F (l ++ [a]) (m ++ [b])) : F a b := by
  have e : (l ++ [a]).length = (m ++ [b]).length := h.length
  simp at e
  obtain ⟨b', h1, h2⟩ := P2.get h (i := l.length) (a := a) (by simp)
  rw [e] at h1
  simp at h1
  rw [h1]
  exact h2
end
theorem drop_cons {α : Type} : ∀ {l : List α} {i : Nat} {x : α}, l[i]? = some x → l.drop i = x :: l.drop (i + 1)
  | [], _, _, h => by simp at h
  | a :: l, 0, x, h => by simp at h; subst h; rfl
  | a :: l, i + 1, x, h => by simpa using drop_cons (l := l) (i := i) (by simpa using h)
/-! ### what stands at a value -/
abbrev Rel (α : Type) := Hp → V → α → Prop
/-- a relation that leans on tuples alone -/
def Stable {α : Type} (R : Rel α) : Prop := ∀ (H H' : Hp) (v : V) (x : α), TupLe H H' → R H v x → R H' v x
def IsTp (H : Hp) (v : V) (xs : List V) : Prop := ∃ a, v = .ref a ∧ H a = some (.tup xs)
theorem IsTp.mono {H H' : Hp} {v : V} {xs : List V} (t : TupLe H H') (h : IsTp H v xs) : IsTp H' v xs := let ⟨a, e, q⟩ := h; ⟨a, e, t a xs q⟩
abbrev Row := List Key
abbrev Pr := Int × Row
abbrev Ord := List (Nat × Bool)
def wayS (b : Bool) : Str := if b = true then "up" else "down"
def RowAt : Rel Row := fun H v r => IsTp H v (r.map kV)
def PairAt : Rel Pr := fun H v p => ∃ w, IsTp H v [.int p.1, w] ∧ RowAt H w p.2
def TurnAt : Rel (Nat × Bool) := fun H v t => IsTp H v [.int (t.1 : Int), .str (wayS t.2)]
def IntAt : Rel Int := fun _ v i => v = .int i
def KeyAt : Rel Key := fun _ v i => v = kV i
theorem RowAt.st : Stable RowAt := fun _ _ _ _ t h => IsTp.mono t h
theorem PairAt.st : Stable PairAt := fun _ _ _ _ t ⟨w, a, b⟩ => ⟨w, a.mono t, b.mono t⟩
theorem TurnAt.st : Stable TurnAt := fun _ _ _ _ t h => IsTp.mono t h
theorem IntAt.st : Stable IntAt := fun _ _ _ _ _ h => h
theorem KeyAt.st : Stable KeyAt := fun _ _ _ _ _ h => h
/-- a list at l whose items are the xs -/
def Lst {α : Type} (R : Rel α) (H : Hp) (l : Addr) (xs : List α) : Prop := ∃ vs, H l = some (.lst vs) ∧ Paired (R H) vs xs
def LstV {α : Type} (R : Rel α) : Rel (List α) := fun H v xs => ∃ l, v = .ref l ∧ Lst R H l xs
section
variable {α : Type} {R : Rel α} {H H' : Hp} {l : Addr} {xs : List α}
theorem Lst.len (h : Lst R H l xs) : ∃ vs, H l = some (.lst vs) ∧ vs.length = xs.length := let ⟨vs, a, b⟩ := h; ⟨vs, a, b.length⟩
theorem Paired.tl (s : Stable R) (t : TupLe H H') {vs : List V} (h : Paired (R H) vs xs) : Paired (R H') vs xs := P2.mono (fun v x q => s H H' v x t q) h
/-- the list stands, and tuples -/
theorem Lst.keep (s : Stable R) (t : TupLe H H') (h : Lst R H l xs) (e : ∀ o, H l = some o → H' l = some o) : Lst R H' l xs := let ⟨vs, a, b⟩ := h; ⟨vs, e _ a, Paired.tl s t b⟩
theorem Lst.same (s : Stable R) (k : Same H H') (h : Lst R H l xs) : Lst R H' l xs := h.keep s (TupLe.same k) fun o => k l o
theorem LstV.same (s : Stable R) (k : Same H H') {v : V} (h : LstV R H v xs) : LstV R H' v xs := let ⟨l, e, q⟩ := h; ⟨l, e, q.same s k⟩
end
/-! ### heaps: a new object, a changed one -/
theorem Same.new {H : Hp} {p : Addr} {o : HO} (h : H p = none) : Same H (upd H p o) := fun a u e => by
  rw [upd_ne (ne_of_none e h)]
  exact e
theorem Same.mut {H H' : Hp} {p : Addr} {o : HO} (e : Same H H') (h : H p = none) : Same H (upd H' p o) := fun a u ha => by
  rw [upd_ne (ne_of_none ha h)]
  exact e a u ha
theorem TupLe.new {H : Hp} {p : Addr} {o : HO} (h : H p = none) : TupLe H (upd H p o) := TupLe.same (Same.new h)
theorem TupLe.list {H H' : Hp} {p : Addr} {o : HO} {vs : List V} (a : TupLe H H') (h : H' p = some (.lst vs)) : TupLe H (upd H' p o) := a.put fun xs e => by rw [h] at e; cases e
/-- all but the objects at the addresses of S stand -/
def But (S : List Addr) (H H' : Hp) : Prop := ∀ b o, H b = some o → b ∉ S → H' b = some o
theorem But.refl (S : List Addr) (H : Hp) : But S H H := fun _ _ h _ => h
theorem But.trans {S : List Addr} {H H1 H2 : Hp} (a : But S H H1) (b : But S H1 H2) : But S H H2 := fun c o h n => b c o (a c o h n) n
theorem But.same {S : List Addr} {H H1 : Hp} (a : Same H H1) : But S H H1 := fun c o h _ => a c o h
theorem But.new {S : List Addr} {H H1 : Hp} {p : Addr} {o : HO} (a : But S H H1) (h : H1 p = none) : But S H (upd H1 p o) := fun c u e n => by
  have e2 := a c u e n
  rw [upd_ne (ne_of_none e2 h)]
  exact e2
theorem But.put {S : List Addr} {H H1 : Hp} {p : Addr} {o : HO} (a : But S H H1) (h : p ∈ S) : But S H (upd H1 p o) := fun c u e n => by
  rw [upd_ne (fun z => n (by rw [z]; exact h))]
  exact a c u e n
end Rs
namespace Rs
open PySem PySem.Spec PyProof.Rows L2
theorem But.mut {S : List Addr} {H H1 : Hp} {p : Addr} {o : HO} (a : But S H H1) (h : H p = none) : But S H (L2.upd H1 p o) := fun c u e n => by
  rw [upd_ne (ne_of_none e h)]
  exact a c u e n
theorem But.wide {S T : List Addr} {H H1 : Hp} (a : But S H H1) (h : ∀ x ∈ S, x ∈ T) : But T H H1 := fun c u e n => a c u e fun z => n (h c z)
/-- what S may change is not known to H: all stands -/
theorem But.fresh {S : List Addr} {H H0 H1 : Hp} (a : But S H H1) (s : Same H0 H) (h : ∀ x ∈ S, H0 x = none) : Same H0 H1 := fun c u e => a c u (s c u e) fun z => by
  rw [h c z] at e
  cases e
theorem none_of_but {S : List Addr} {H H1 : Hp} {p : Addr} (a : But S H H1) (h : H1 p = none) (n : p ∉ S) : H p = none := by
  cases q : H p with
  | none => rfl
  | some o =>
    rw [a p o q n] at h
    cases h
theorem ixN_nat {n j : Nat} (h : j < n) : ixN n (j : Int) = some j := by
  unfold ixN
  rw [if_pos (by omega), if_pos (by omega)]
  simp
theorem ixN_zero' {n : Nat} (h : 0 < n) : ixN n 0 = some 0 := ixN_nat (j := 0) h
/-! ### reading steps -/
section
variable {K : PySem.W.Frag} {H : Hp} {Q : VK} {x v : V} {xs : List V} {i : Int} {j : Nat}
theorem ixT (h : IsTp H x xs) (hi : i = (j : Int)) (e : xs[j]? = some v) (q : Q v H) : rIxT K x (.int i) H Q := by
  obtain ⟨a, rfl, h⟩ := h
  exact ⟨a, xs, i, v, rfl, rfl, SqT.of h, at_of hi e, q⟩
theorem ixL {a : Addr} (h : H a = some (.lst xs)) (hi : i = (j : Int)) (e : xs[j]? = some v) (q : Q v H) : rIxL K (.ref a) (.int i) H Q := ⟨a, xs, i, v, rfl, rfl, SqL.of h, at_of hi e, q⟩
theorem ixLast {a : Addr} (h : H a = some (.lst (xs ++ [v]))) (q : Q v H) : rIxL K (.ref a) (.int (-1)) H Q := ⟨a, _, _, v, rfl, rfl, SqL.of h, atI_last _ _, q⟩
theorem lenL {a : Addr} (h : H a = some (.lst xs)) {n : Int} (e : n = (xs.length : Int)) (q : Q (.int n) H) : xLen K [.ref a] H Q := by
  subst e
  exact ⟨a, xs, rfl, .inl (SqL.of h), q⟩
theorem lenT (h : IsTp H x xs) {n : Int} (e : n = (xs.length : Int)) (q : Q (.int n) H) : xLen K [x] H Q := by
  subst e
  obtain ⟨a, rfl, h⟩ := h
  exact ⟨a, xs, rfl, .inr (SqT.of h), q⟩
/-- xs == [], xs != [] with the empty list just made -/
theorem neE {a p : Addr} (h : H a = some (.lst xs)) (hp : H p = none) {b : Bool} (e : b = !xs.isEmpty) (q : Q (.bl b) (upd H p (.lst []))) : xNeE K (.ref a) (.ref p) (upd H p (.lst [])) Q := by
  subst e
  refine ⟨a, p, xs, [], rfl, rfl, SqL.of (by rw [upd_ne (ne_of_none h hp)]; exact h), SqL.of upd_same, .inr rfl, ?_⟩
  cases xs <;> exact q
theorem eqE {a p : Addr} (h : H a = some (.lst xs)) (hp : H p = none) {b : Bool} (e : b = xs.isEmpty) (q : Q (.bl b) (upd H p (.lst []))) : xEqE K (.ref a) (.ref p) (upd H p (.lst [])) Q := by
  subst e
  refine ⟨a, p, xs, [], rfl, rfl, SqL.of (by rw [upd_ne (ne_of_none h hp)]; exact h), SqL.of upd_same, .inr rfl, ?_⟩
  cases xs <;> exact q
end
theorem lc_yes {σ : L2.St} {H : Hp} {A B : Hp → Prop} (h : A H) : tYes σ H (fun b H3 => if b = true then A H3 else B H3) := by
  show if true = true then A H else B H
  rw [if_pos rfl]
  exact h
theorem sz0 : (0 : Nat) ≤ sizeLine := Nat.zero_le _
theorem szle {n : Nat} (h : n ≤ 100000) : n ≤ sizeLine := Nat.le_trans h (by decide)
theorem szlt {n : Nat} (h : n < 100000) : n < sizeLine := Nat.lt_of_lt_of_le h (by decide)
/-! ### the order of rows -/
def keyLt : Key → Key → Bool
  | .inl i, .inl j => decide (i < j)
  | .inr s, .inr t => decide (s.cps.toList < t.cps.toList)
  | _, _ => false
def kcol (r : Row) (c : Nat) : Key := r.getD c (.inl 0)
def before : Ord → Pr → Pr → Bool
  | [], p, q => decide (p.1 < q.1)
  | t :: o, p, q => if kcol p.2 t.1 = kcol q.2 t.1 then before o p q else (keyLt (kcol p.2 t.1) (kcol q.2 t.1) == t.2)
/-- they can be compared by the order o -/
def Cmp (o : Ord) (p q : Row) : Prop := ∀ t ∈ o, t.1 < p.length ∧ t.1 < q.length ∧ (kcol p t.1).isLeft = (kcol q t.1).isLeft
theorem kcol_get {r : Row} {c : Nat} (h : c < r.length) : r[c]? = some (kcol r c) := by
  unfold kcol
  rw [List.getD_eq_getElem?_getD, List.getElem?_eq_getElem h]
  rfl
theorem kV_inj {x y : Key} (h : kV x = kV y) : x = y := by
  cases x <;> cases y <;> simp [kV] at h <;> subst h <;> rfl
theorem kV_dec (x y : Key) : decide (kV x = kV y) = decide (x = y) := by
  by_cases h : x = y
  · subst h; simp
  · rw [decide_eq_false h, decide_eq_false fun e => h (kV_inj e)]
theorem kV_scal {x y : Key} (h : x.isLeft = y.isLeft) : scal (kV x) (kV y) = true := by
  cases x <;> cases y <;> first | rfl | cases h
/-- x < y of two keys of one kind -/
theorem ltV_go {H : Hp} {Q : VK} {x y : Key} (h : x.isLeft = y.isLeft) (q : Q (.bl (keyLt x y)) H) : xLtV (kV x) (kV y) H Q := by
  cases x <;> cases y
  · exact .inl ⟨_, _, rfl, rfl, q⟩
  · cases h
  · cases h
  · exact .inr ⟨_, _, rfl, rfl, q⟩
theorem gtV_go {H : Hp} {Q : VK} {x y : Key} (h : x.isLeft = y.isLeft) (q : Q (.bl (keyLt y x)) H) : xGtV (kV x) (kV y) H Q := by
  cases x <;> cases y
  · exact .inl ⟨_, _, rfl, rfl, q⟩
  · cases h
  · cases h
  · exact .inr ⟨_, _, rfl, rfl, q⟩
theorem str_ext {s t : Str} (h : s.cps.toList = t.cps.toList) : s = t := by
  cases s; cases t
  simp at h
  subst h
  rfl
theorem keyLt_irrefl (x : Key) : keyLt x x = false := by
  cases x <;> simp [keyLt]
theorem keyLt_trans {x y z : Key} (a : keyLt x y = true) (b : keyLt y z = true) : keyLt x z = true := by
  cases x <;> cases y <;> cases z <;> simp [keyLt] at a b ⊢
  · omega
  · exact List.lt_trans a b
theorem keyLt_tot {x y : Key} (h : x.isLeft = y.isLeft) (n : x ≠ y) : keyLt y x = !keyLt x y := by
  cases x <;> cases y
  · simp only [keyLt]
    rename_i i j
    have : i ≠ j := fun e => n (by rw [e])
    by_cases e : i < j
    · rw [decide_eq_true e, decide_eq_false (by omega)]; rfl
    · rw [decide_eq_false e, decide_eq_true (by omega)]; rfl
  · cases h
  · cases h
  · simp only [keyLt]
    rename_i s t
    by_cases e : s.cps.toList < t.cps.toList
    · rw [decide_eq_true e, decide_eq_false (fun z => List.lt_irrefl _ (List.lt_trans e z))]; rfl
    · have : t.cps.toList < s.cps.toList := by
        rcases Std.lt_trichotomy s.cps.toList t.cps.toList with h1 | h1 | h1
        · exact absurd h1 e
        · exact absurd (by rw [str_ext h1]) n
        · exact h1
      rw [decide_eq_false e, decide_eq_true this]; rfl
end Rs

namespace Rs
open PySem PySem.Spec PyProof.Rows L2
/-! ### kinds, rows that are some, orders that are some -/
def letters : List Nat := ("abcdefghijklmnopqrstuvwxyz" : Str).cps.toList
def isValue (k : Str) : Key → Bool
  | .inl i => decide (k ≠ "word") && (decide (-999 ≤ i) && decide (i ≤ 999))
  | .inr s => decide (k = "word") && (decide (s.length ≤ 6) && s.cps.toList.all fun c => decide (c ∈ letters))
def isRow (ks : List Str) (r : Row) : Bool := decide (r.length = ks.length) && (List.range ks.length).all fun i => isValue (ks.getD i "") (kcol r i)
structure GoodKinds (ks : List Str) : Prop where
  pos : 1 ≤ ks.length
  le : ks.length ≤ 4
  all : ∀ k ∈ ks, k = "number" ∨ k = "word"
structure GoodOrd (ks : List Str) (o : Ord) : Prop where
  ne : o ≠ []
  col : ∀ t ∈ o, t.1 < ks.length
  nd : (o.map (·.1)).Nodup
theorem isRow_len {ks : List Str} {r : Row} (h : isRow ks r = true) : r.length = ks.length := by
  unfold isRow at h
  simp only [Bool.and_eq_true, decide_eq_true_eq] at h
  exact h.1
theorem isRow_val {ks : List Str} {r : Row} (h : isRow ks r = true) {i : Nat} (hi : i < ks.length) : isValue (ks.getD i "") (kcol r i) = true := by
  unfold isRow at h
  simp only [Bool.and_eq_true, decide_eq_true_eq, List.all_eq_true, List.mem_range] at h
  exact h.2 i hi
theorem isValue_left {k : Str} {x y : Key} (a : isValue k x = true) (b : isValue k y = true) : x.isLeft = y.isLeft := by
  cases x <;> cases y <;> simp [isValue] at a b ⊢
  · exact absurd b.1 a.1
  · exact absurd a.1 b.1
theorem cmp_of {ks : List Str} {o : Ord} {p q : Row} (ho : ∀ t ∈ o, t.1 < ks.length) (hp : isRow ks p = true) (hq : isRow ks q = true) : Cmp o p q := fun t ht => by
  have h := ho t ht
  exact ⟨by rw [isRow_len hp]; exact h, by rw [isRow_len hq]; exact h, isValue_left (isRow_val hp h) (isRow_val hq h)⟩
theorem Cmp.tail {t : Nat × Bool} {o : Ord} {p q : Row} (h : Cmp (t :: o) p q) : Cmp o p q := fun u hu => h u (List.mem_cons_of_mem _ hu)
theorem Cmp.head {t : Nat × Bool} {o : Ord} {p q : Row} (h : Cmp (t :: o) p q) : (kcol p t.1).isLeft = (kcol q t.1).isLeft := (h t (List.mem_cons_self ..)).2.2
theorem before_irrefl : ∀ (o : Ord) (p : Pr), before o p p = false
  | [], p => by simp [before]
  | t :: o, p => by simp [before, before_irrefl o p]
theorem before_trans : ∀ (o : Ord) {p q r : Pr}, Cmp o p.2 q.2 → Cmp o q.2 r.2 → before o p q = true → before o q r = true → before o p r = true
  | [], p, q, r, _, _, a, b => by
    simp [before] at a b ⊢
    omega
  | t :: o, p, q, r, c1, c2, a, b => by
    unfold before at a b ⊢
    have h1 := c1.head
    have h2 := c2.head
    by_cases e1 : kcol p.2 t.1 = kcol q.2 t.1
    · rw [if_pos e1] at a
      by_cases e2 : kcol q.2 t.1 = kcol r.2 t.1
      · rw [if_pos e2] at b
        rw [if_pos (e1.trans e2)]
        exact before_trans o c1.tail c2.tail a b
      · rw [if_neg e2] at b
        rw [e1, if_neg e2]
        exact b
    · rw [if_neg e1] at a
      by_cases e2 : kcol q.2 t.1 = kcol r.2 t.1
      · rw [← e2, if_neg e1]
        exact a
      · rw [if_neg e2] at b
        have ea := beq_iff_eq.mp a
        have eb := beq_iff_eq.mp b
        have t1 := keyLt_tot h1 e1
        have t2 := keyLt_tot h2 e2
        cases ht : t.2 with
        | true =>
          rw [ht] at ea eb
          have tr := keyLt_trans ea eb
          rw [if_neg (fun z => by rw [z, keyLt_irrefl] at tr; cases tr), tr]
          rfl
        | false =>
          rw [ht] at ea eb
          rw [ea] at t1
          rw [eb] at t2
          have tr := keyLt_trans t2 t1
          have ne : kcol p.2 t.1 ≠ kcol r.2 t.1 := fun z => by rw [z, keyLt_irrefl] at tr; cases tr
          rw [if_neg ne]
          have t3 := keyLt_tot (h1.trans h2) ne
          rw [tr] at t3
          cases hk : keyLt (kcol p.2 t.1) (kcol r.2 t.1) with
          | false => rfl
          | true => rw [hk] at t3; cases t3
theorem before_tot : ∀ (o : Ord) {p q : Pr}, Cmp o p.2 q.2 → p.1 ≠ q.1 → before o q p = !before o p q
  | [], p, q, _, n => by
    simp only [before]
    by_cases e : p.1 < q.1
    · rw [decide_eq_true e, decide_eq_false (by omega)]; rfl
    · rw [decide_eq_false e, decide_eq_true (by omega)]; rfl
  | t :: o, p, q, c, n => by
    unfold before
    by_cases e1 : kcol p.2 t.1 = kcol q.2 t.1
    · rw [if_pos e1, if_pos e1.symm]
      exact before_tot o c.tail n
    · rw [if_neg e1, if_neg fun z => e1 z.symm, keyLt_tot c.head e1]
      cases keyLt (kcol p.2 t.1) (kcol q.2 t.1) <;> cases t.2 <;> rfl
/-- a list of (number, row) whose rows are some, no number twice -/
structure Fine (ks : List Str) (xs : List Pr) : Prop where
  row : ∀ p ∈ xs, isRow ks p.2 = true
  nd : (xs.map (·.1)).Nodup
theorem Fine.perm {ks : List Str} {xs ys : List Pr} (h : Fine ks xs) (p : ys.Perm xs) : Fine ks ys := ⟨fun q hq => h.row q (p.mem_iff.mp hq), (p.map (·.1)).nodup_iff.mpr h.nd⟩
theorem Fine.sub {ks : List Str} {xs ys : List Pr} (h : Fine ks xs) (s : ys.Sublist xs) : Fine ks ys := ⟨fun q hq => h.row q (s.subset hq), h.nd.sublist (s.map (·.1))⟩
theorem Fine.take {ks : List Str} {xs : List Pr} (h : Fine ks xs) (n : Nat) : Fine ks (xs.take n) := h.sub (List.take_sublist _ _)
theorem Fine.drop {ks : List Str} {xs : List Pr} (h : Fine ks xs) (n : Nat) : Fine ks (xs.drop n) := h.sub (List.drop_sublist _ _)
/-- in order -/
def Up (o : Ord) (xs : List Pr) : Prop := xs.Pairwise fun p q => before o p q = true
/-- two arrangements in order are one -/
theorem up_unique {ks : List Str} {o : Ord} (ho : ∀ t ∈ o, t.1 < ks.length) : ∀ {xs ys : List Pr}, Fine ks xs → xs.Perm ys → Up o xs → Up o ys → xs = ys
  | [], ys, _, p, _, _ => (List.Perm.nil_eq p)
  | x :: xs, [], _, p, _, _ => absurd p.symm.nil_eq (by simp)
  | x :: xs, y :: ys, f, p, a, b => by
    have fy : Fine ks (y :: ys) := f.perm p.symm
    have e : x = y := by
      have hx : x ∈ y :: ys := p.mem_iff.mp (List.mem_cons_self ..)
      have hy : y ∈ x :: xs := p.mem_iff.mpr (List.mem_cons_self ..)
      rcases List.mem_cons.mp hx with h | h
      · exact h
      · rcases List.mem_cons.mp hy with h' | h'
        · exact h'.symm
        · have b1 : before o y x = true := List.rel_of_pairwise_cons b h
          have a1 : before o x y = true := List.rel_of_pairwise_cons a h'
          have t := before_trans o (cmp_of ho (f.row x (List.mem_cons_self ..)) (f.row y hy)) (cmp_of ho (f.row y hy) (f.row x (List.mem_cons_self ..))) a1 b1
          rw [before_irrefl] at t
          cases t
    subst e
    rw [up_unique ho (f.sub (List.sublist_cons_self ..)) p.cons_inv (List.Pairwise.of_cons a) (List.Pairwise.of_cons b)]
abbrev N_is_before : List Str := ["order", "one", "other", "column", "way"]
abbrev P_is_before : List Str := ["order", "one", "other"]
def sp_is_before (K : PySem.W.Frag) : Sp := fun vs H Q E => match vs with
  | [vo, a, b] => ∃ o p q, LstV TurnAt H vo o ∧ PairAt H a p ∧ PairAt H b q ∧ Cmp o p.2 q.2 ∧ Q (.bl (before o p q)) H
  | _ => False
def t_is_before (K : PySem.W.Frag) (E : XK) : TS := (tSeq (tFor (iList K (tVar 0)) (gTup K 2 (gCons (gName 3) (gCons (gName 4) gNil))) 
    (tIfS (tTest (tOp rNe (tOp (rIxT K) (tOpC (rIxT K) (tVar 1) (.int 1)) (tVar 3)) (tOp (rIxT K) (tOpC (rIxT K) (tVar 2) (.int 1)) (tVar 3)))) (tRet (tOp rEq (tOp xLtV (tOp (rIxT K) (tOpC (rIxT K) (tVar 1) (.int 1)) (tVar 3)) (tOp (rIxT K) (tOpC (rIxT K) (tVar 2) (.int 1)) (tVar 3))) (tOpC rEq (tVar 4) (.str "up")))) tNext))
  (tRet (tOp xLt (tOpC (rIxT K) (tVar 1) (.int 0)) (tOpC (rIxT K) (tVar 2) (.int 0)))))
theorem before_cons (t : Nat × Bool) (o : Ord) (p q : Pr) : before (t :: o) p q = if kcol p.2 t.1 = kcol q.2 t.1 then before o p q else (keyLt (kcol p.2 t.1) (kcol q.2 t.1) == t.2) := rfl
theorem way_eq (b : Bool) : decide (V.str (wayS b) = V.str "up") = b := by
  cases b
  · exact decide_eq_false fun e => absurd e (by decide +kernel)
  · exact decide_eq_true rfl
theorem pure_is_before {K : PySem.W.Frag} : ∀ vs H Q E, sp_is_before K vs H Q E → t_is_before K E { nx := fun _ H' => Q .non H', rt := Q } (start N_is_before vs) H := by
  intro vs H Q E h
  match vs, h with
  | [vo, a, b], h =>
    obtain ⟨o, p, q, ⟨lo, rfl, ts, hl, hts⟩, ⟨w1, ha, hr1⟩, ⟨w2, hb, hr2⟩, hc, k⟩ := h
    refine ⟨_, rfl, lo, rfl, ⟨_, SqL.of hl⟩, for_list (K := K) (a := lo) (xs := ts) (fun i σ H' => ∃ x3 x4, σ = [some (.ref lo), some a, some b, x3, x4] ∧ H' = H ∧ before o p q = before (o.drop i) p q) ⟨none, none, rfl, rfl, rfl⟩ ?_ ?_ ?_⟩
    · rintro i σ H' _ ⟨_, _, _, rfl, _⟩
      exact SqL.of hl
    · rintro i v σ H' hi ⟨x3, x4, rfl, rfl, he⟩
      obtain ⟨t, ht, at_, rfl, et⟩ := P2.get hts hi
      have hd : o.drop i = t :: o.drop (i + 1) := drop_cons ht
      obtain ⟨c1, c2, c3⟩ := hc t (List.mem_of_getElem? ht)
      refine ⟨at_, _, rfl, SqT.of et, rfl, _, _, rfl, _, _, rfl, rfl, ?_⟩
      refine ⟨_, rfl, ixT ha (j := 1) rfl rfl ⟨_, rfl, ixT hr1 (j := t.1) rfl (by rw [List.getElem?_map, kcol_get c1]; rfl) ⟨_, rfl, ixT hb (j := 1) rfl rfl ⟨_, rfl, ixT hr2 (j := t.1) rfl (by rw [List.getElem?_map, kcol_get c2]; rfl) ⟨kV_scal c3, _, rfl, ?_⟩⟩⟩⟩⟩
      rw [kV_dec]
      rw [hd, before_cons] at he
      by_cases e : kcol p.2 t.1 = kcol q.2 t.1
      · rw [decide_eq_true e]
        rw [if_pos e] at he
        exact ⟨_, _, rfl, rfl, he⟩
      · rw [decide_eq_false e]
        rw [if_neg e] at he
        refine ⟨_, rfl, ixT ha (j := 1) rfl rfl ⟨_, rfl, ixT hr1 (j := t.1) rfl (by rw [List.getElem?_map, kcol_get c1]; rfl) ⟨_, rfl, ixT hb (j := 1) rfl rfl ⟨_, rfl, ixT hr2 (j := t.1) rfl (by rw [List.getElem?_map, kcol_get c2]; rfl) (ltV_go c3 ⟨_, rfl, rfl, rfl, ?_⟩)⟩⟩⟩⟩
        rw [way_eq]
        rw [he] at k
        have z : decide (V.bl (keyLt (kcol p.2 t.1) (kcol q.2 t.1)) = V.bl t.2) = (keyLt (kcol p.2 t.1) (kcol q.2 t.1) == t.2) := by
          cases keyLt (kcol p.2 t.1) (kcol q.2 t.1) <;> cases t.2 <;> rfl
        rw [z]
        exact k
    · rintro σ H' ⟨x3, x4, rfl, rfl, he⟩
      have e0 : before o p q = decide (p.1 < q.1) := by rw [he, List.drop_of_length_le (by rw [← hts.length]; exact Nat.le_refl _)]; rfl
      rw [e0] at k
      exact ⟨_, rfl, ixT ha (j := 0) rfl rfl ⟨_, rfl, ixT hb (j := 0) rfl rfl ⟨_, _, rfl, rfl, k⟩⟩⟩
end Rs

namespace Rs
open PySem PySem.Spec PyProof.Rows L2
/-! ### the law's box: the numbers that are left, and a number -/
structure Box (H : Hp) (a l : Addr) : Prop where
  ex : ∃ (ns : List Int) (st : Int), H a = some (.lst [.ref l, .int st]) ∧ H l = some (.lst (ns.map V.int)) ∧ 0 ≤ st
theorem Box.ne {H : Hp} {a l : Addr} (b : Box H a l) : a ≠ l := by
  obtain ⟨ns, st, h1, h2, _⟩ := b.ex
  intro e
  subst e
  rw [h1] at h2
  cases ns with
  | nil => cases h2
  | cons n ns => cases h2
theorem Box.keep {H H' : Hp} {a l : Addr} (b : Box H a l) (h1 : ∀ o, H a = some o → H' a = some o) (h2 : ∀ o, H l = some o → H' l = some o) : Box H' a l := by
  obtain ⟨ns, st, e1, e2, h⟩ := b.ex
  exact ⟨ns, st, h1 _ e1, h2 _ e2, h⟩
theorem Box.same {H H' : Hp} {a l : Addr} (b : Box H a l) (s : Same H H') : Box H' a l := b.keep (fun o => s a o) fun o => s l o
theorem Box.tup {H H' : Hp} {a l : Addr} (b : Box H a l) (k : But [a, l] H H') : TupLe H H' := fun c xs e => by
  obtain ⟨ns, st, e1, e2, h⟩ := b.ex
  refine k c _ e ?_
  intro hm
  simp at hm
  rcases hm with rfl | rfl
  · rw [e1] at e; cases e
  · rw [e2] at e; cases e
theorem un {H : Hp} {a p : Addr} {o u : HO} (h : H a = some o) (hp : H p = none) : upd H p u a = some o := by
  rw [upd_ne (ne_of_none h hp)]
  exact h
theorem up {H : Hp} {a p : Addr} {o u : HO} (h : H a = some o) (hp : a ≠ p) : upd H p u a = some o := by
  rw [upd_ne hp]
  exact h
theorem nn {a b c : Addr} (h1 : a ≠ b) (h2 : a ≠ c) : a ∉ [b, c] := by
  intro hm
  simp at hm
  rcases hm with h | h
  · exact h1 h
  · exact h2 h
abbrev N_law_begun : List Str := ["_law_script", "_law_stirred", "_law_cell"]
abbrev P_law_begun : List Str := ["_law_script"]
def sp_law_begun (K : PySem.W.Frag) : Sp := fun vs H Q E => match vs with
  | [s] => ∃ (p : Addr) (ns : List Int), s = .ref p ∧ SqL K H p (ns.map V.int) ∧ ns.length ≤ 63 ∧ ∀ a l H', H a = none → H l = none → Box H' a l → Same H H' → Q (.ref a) H'
  | _ => False
def t_law_begun (K : PySem.W.Frag) (E : XK) : TS := (tSeq (tAsg (tC (.int 0)) (gName 1))
  (tSeq (tFor (iList K (tVar 0)) (gName 2) (tAsg (tOpC xMod (tOpC xAdd (tOp xAdd (tOpC xMul (tVar 1) (.int 48271)) (tOpC xMul (tVar 2) (.int 69621))) (.int 11)) (.int 2147483647)) (gName 1)))
   (tRet (tLst (tCons (tCB1 (xList K) (tVar 0)) (tCons (tOp xMul (tVar 1) (tCB1 xInt (tOpC xGt (tCB1 (xLen K) (tVar 0)) (.int 2)))) tNil))))))
theorem pure_law_begun {K : PySem.W.Frag} : ∀ vs H Q E, sp_law_begun K vs H Q E → t_law_begun K E { nx := fun _ H' => Q .non H', rt := Q } (start N_law_begun vs) H := by
  intro vs H Q E h
  match vs, h with
  | [s], h =>
    obtain ⟨p, ns, rfl, hs, hlen, k⟩ := h
    refine ⟨_, rfl, p, rfl, ⟨_, hs⟩, for_list (K := K) (a := p) (xs := ns.map V.int) (fun i σ H' => ∃ (st : Int) (x2 : Option V), σ = [some (.ref p), some (.int st), x2] ∧ H' = H ∧ 0 ≤ st) ⟨0, none, rfl, rfl, Int.le_refl _⟩ ?_ ?_ ?_⟩
    · rintro i σ H' _ ⟨_, _, _, rfl, _⟩
      exact hs
    · rintro i v σ H' hi ⟨st, x2, rfl, rfl, h0⟩
      rw [List.getElem?_map] at hi
      obtain ⟨n, hn, rfl⟩ := Option.map_eq_some_iff.mp hi
      refine ⟨_, rfl, _, _, rfl, rfl, .inr ⟨by decide, by decide⟩, _, rfl, _, _, rfl, rfl, .inr ⟨by decide, by decide⟩, _, _, rfl, rfl, _, _, rfl, rfl, _, _, rfl, rfl, by show (0 : Int) < 2147483647; decide, ?_⟩
      exact ⟨_, _, rfl, rfl, Int.emod_nonneg _ (by decide)⟩
    · rintro σ H' ⟨st, x2, rfl, rfl, h0⟩
      refine ⟨_, rfl, p, _, rfl, .inl hs, fun l hl => ?_⟩
      have hs1 : SqL K (upd H' l (.lst (ns.map V.int))) p (ns.map V.int) := Same.seq (Rs.Same.new hl) hs
      refine ⟨_, rfl, _, rfl, p, _, rfl, .inl hs1, _, _, rfl, rfl, .inr ⟨_, rfl, ?_⟩⟩
      have hb : ∀ b : Bool, CMul st (if b = true then 1 else 0) := fun b => by cases b <;> exact .inr ⟨by decide, by decide⟩
      refine ⟨_, _, rfl, rfl, hb _, szle (by show 2 ≤ 100000; decide), fun a ha => ?_⟩
      have nal : l ≠ a := ne_of_none upd_same ha
      have hz : ∀ b : Bool, 0 ≤ st * (if b = true then (1 : Int) else 0) := fun b => by cases b <;> simp [h0]
      refine k a l _ (none_of_but (S := []) (But.same (Rs.Same.new hl)) ha (by simp)) hl ⟨ns, _, upd_same, by rw [upd_ne nal]; exact upd_same, hz _⟩ (Same.trans (Rs.Same.new hl) (Rs.Same.new ha))
abbrev N_law_take : List Str := ["_law_box", "_law_many", "_law_number"]
abbrev P_law_take : List Str := ["_law_box", "_law_many"]
def sp_law_take (K : PySem.W.Frag) : Sp := fun vs H Q E => match vs with
  | [b, m] => ∃ a l n, b = .ref a ∧ m = .int n ∧ 0 < n ∧ n ≤ 1000000000000000000 ∧ Box H a l ∧ ∀ r H', 0 ≤ r → r < n → Box H' a l → But [a, l] H H' → Q (.int r) H'
  | _ => False
def t_law_take (K : PySem.W.Frag) (E : XK) : TS := (tSeq (tIfS (tTest (tOp (xEqE K) (tOpC (rIxL K) (tVar 0) (.int 0)) (tLst tNil))) 
    (tSeq (tAsg (tOpC xMod (tOpC xMul (tOpC (rIxL K) (tVar 0) (.int 1)) (.int 48271)) (.int 2147483647)) (gSubC (tVar 0) (.int 1) rSetL))
    (tRet (tOp xMod (tOpC xDiv (tOpC (rIxL K) (tVar 0) (.int 1)) (.int 7)) (tVar 1)))) tNext)
  (tSeq (tAsg (tOpC (rIxL K) (tOpC (rIxL K) (tVar 0) (.int 0)) (.int 0)) (gName 2))
   (tSeq (tAsg (tOp xDiv (tVar 2) (tVar 1)) (gSubC (tOpC (rIxL K) (tVar 0) (.int 0)) (.int 0) rSetL))
    (tSeq (tIfS (tOr (tTest (tOpC rEq (tOpC (rIxL K) (tOpC (rIxL K) (tVar 0) (.int 0)) (.int 0)) (.int 0))) (tTest (tOpC rEq (tOpC (rIxL K) (tOpC (rIxL K) (tVar 0) (.int 0)) (.int 0)) (.int (-1))))) (tDrop (tBM K "list" rPopAt (tOpC (rIxL K) (tVar 0) (.int 0)) (tConsC (.int 0) tNil))) tNext)
     (tRet (tOp xMod (tVar 2) (tVar 1)))))))
theorem ixN_zero {n : Nat} : ixN (n + 1) 0 = some 0 := by
  unfold ixN
  rw [if_pos (by omega), if_pos (by omega)]
  rfl
theorem seqIx {n j : Nat} (h : j < n) : seqIndex? (j : Int) n = some j := (ixN_seq (ixN_nat h)).1
theorem div_ok {i j : Int} (h : 0 < j) (h2 : j ≤ 1000000000000000000) : CDivW i j := wide_div (b := 60) h (by omega) (by decide) (by decide)
theorem pure_law_take {K : PySem.W.Frag} : ∀ vs H Q E, sp_law_take K vs H Q E → t_law_take K E { nx := fun _ H' => Q .non H', rt := Q } (start N_law_take vs) H := by
  intro vs H Q E h
  match vs, h with
  | [b, m], h =>
    obtain ⟨a, l, n, rfl, rfl, hn, hn2, B, k⟩ := h
    have nal := B.ne
    obtain ⟨ns, st, ha, hl, h0⟩ := B.ex
    refine ⟨_, rfl, ixL ha (j := 0) rfl rfl ⟨sz0, fun p hp => ?_⟩⟩
    have ha1 : upd H p (.lst []) a = _ := un ha hp
    have hl1 : upd H p (.lst []) l = _ := un hl hp
    have s1 : But [a, l] H (upd H p (.lst [])) := But.same (Rs.Same.new hp)
    cases ns with
    | nil =>
      refine eqE hl hp (b := true) rfl ⟨_, rfl, ?_⟩
      refine ⟨_, rfl, ixL ha1 (j := 1) rfl rfl ⟨_, _, rfl, rfl, .inr ⟨by decide, by decide⟩, _, _, rfl, rfl, by show (0 : Int) < 2147483647; decide, ?_⟩⟩
      refine ⟨_, rfl, _, _, _, 1, rfl, rfl, ha1, rfl, ?_⟩
      refine ⟨_, rfl, ixL (j := 1) upd_same rfl rfl ⟨_, _, rfl, rfl, div_ok (by decide) (by decide), _, rfl, _, _, rfl, rfl, hn, ?_⟩⟩
      exact k _ _ (Int.emod_nonneg _ (by omega)) (Int.emod_lt_of_pos _ hn) ⟨[], _, upd_same, by rw [upd_ne nal.symm]; exact hl1, Int.emod_nonneg _ (by decide)⟩ (s1.put (by simp))
    | cons x ns =>
      refine eqE hl hp (b := false) rfl ⟨_, rfl, ?_⟩
      refine ⟨_, rfl, ixL ha1 (j := 0) rfl rfl (ixL hl1 (j := 0) rfl rfl ?_)⟩
      refine ⟨_, rfl, _, rfl, _, _, rfl, rfl, div_ok hn hn2, ?_⟩
      refine ⟨_, rfl, ixL ha1 (j := 0) rfl rfl ⟨_, _, _, 0, rfl, rfl, hl1, ixN_zero, ?_⟩⟩
      have ha2 : upd (upd H p (.lst [])) l (.lst (((x :: ns).map V.int).set 0 (.int (x / n)))) a = _ := up ha1 nal
      have hl2 : upd (upd H p (.lst [])) l (.lst (((x :: ns).map V.int).set 0 (.int (x / n)))) l = some (.lst (((x / n) :: ns).map V.int)) := upd_same
      have s2 : But [a, l] H (upd (upd H p (.lst [])) l (.lst (((x :: ns).map V.int).set 0 (.int (x / n))))) := s1.put (by simp)
      have fin : ∀ H', Box H' a l → But [a, l] H H' → Q (.int (x % n)) H' := fun H' b' k' => k _ _ (Int.emod_nonneg _ (by omega)) (Int.emod_lt_of_pos _ hn) b' k'
      have pop : ∀ D : Ends, (∀ σ H', Box H' a l → But [a, l] H H' → σ = [some (.ref a), some (.int n), some (.int x)] → D.nx σ H') → tDrop (tBM K "list" rPopAt (tOpC (rIxL K) (tVar 0) (.int 0)) (tConsC (.int 0) tNil)) D [some (.ref a), some (.int n), some (.int x)] (upd (upd H p (.lst [])) l (.lst (((x :: ns).map V.int).set 0 (.int (x / n))))) := fun D hD => by
        refine ⟨_, rfl, ixL ha2 (j := 0) rfl rfl ⟨.inl ⟨rfl, _, SqL.of hl2⟩, _, _, _, 0, _, rfl, rfl, hl2, by decide, by decide, seqIx (Nat.zero_lt_succ _), rfl, ?_⟩⟩
        refine hD _ _ ⟨ns, st, up ha2 nal, upd_same, h0⟩ (s2.put (by simp)) rfl
      refine ⟨_, rfl, ixL ha2 (j := 0) rfl rfl (ixL hl2 (j := 0) rfl rfl ⟨rfl, _, rfl, ?_⟩)⟩
      by_cases e : (V.int (x / n)) = .int 0
      · rw [decide_eq_true e]
        refine pop _ fun σ H' b' k' e' => ?_
        subst e'
        exact ⟨_, rfl, _, rfl, _, _, rfl, rfl, hn, fin _ b' k'⟩
      · rw [decide_eq_false e]
        refine ⟨_, rfl, ixL ha2 (j := 0) rfl rfl (ixL hl2 (j := 0) rfl rfl ⟨rfl, _, rfl, ?_⟩)⟩
        by_cases e' : (V.int (x / n)) = .int (-1)
        · rw [decide_eq_true e']
          refine pop _ fun σ H' b' k' e' => ?_
          subst e'
          exact ⟨_, rfl, _, rfl, _, _, rfl, rfl, hn, fin _ b' k'⟩
        · rw [decide_eq_false e']
          exact ⟨_, rfl, _, rfl, _, _, rfl, rfl, hn, fin _ ⟨(x / n) :: ns, st, ha2, hl2, h0⟩ s2⟩
abbrev N_law_kinds : List Str := ["_law_box", "_law_k"]
abbrev P_law_kinds : List Str := ["_law_box"]
def KindsAt : Rel (List Str) := fun H v ks => IsTp H v (ks.map V.str)
def sp_law_kinds (K : PySem.W.Frag) : Sp := fun vs H Q E => match vs with
  | [b] => ∃ a l, b = .ref a ∧ Box H a l ∧ ∀ v ks H', KindsAt H' v ks → GoodKinds ks → Box H' a l → But [a, l] H H' → Q v H'
  | _ => False
def t_law_kinds (K : PySem.W.Frag) (E : XK) : TS := (tRet (tCB1 (xTuple K) (tLc (iRng1 (tCons (tOpD xAdd (.int 1) (tCall (sp_law_take K) [] E (tCons (tVar 0) (tConsC (.int 4) tNil)))) tNil)) (gName 1) tYes (tOp (rIxL K) (tLst (tConsC (.str "number") (tConsC (.str "word") tNil))) (tCall (sp_law_take K) [] E0 (tCons (tVar 0) (tConsC (.int 2) tNil)))) [1])))
theorem pick2 {r : Int} (h0 : 0 ≤ r) (h1 : r < 2) : r = 0 ∨ r = 1 := by omega
theorem pick3 {r : Int} (h0 : 0 ≤ r) (h1 : r < 3) : r = 0 ∨ r = 1 ∨ r = 2 := by omega
/-- [s, t][take(box, 2)] -/
theorem pick_two {K : PySem.W.Frag} {H : Hp} {a l : Addr} {x y : V} {Q : VK} {E : XK} {σ : L2.St} {i : Nat} (hσ : σ[i]? = some (some (.ref a))) (B : Box H a l)
    (k : ∀ z H', (z = x ∨ z = y) → Box H' a l → But [a, l] H H' → Q z H') : tOp (rIxL K) (tLst (tConsC x (tConsC y tNil))) (tCall (sp_law_take K) [] E (tCons (tVar i) (tConsC (.int 2) tNil))) σ H Q := by
  refine ⟨szle (by show 2 ≤ 100000; decide), fun p hp => ?_⟩
  obtain ⟨ns, st, ha, hl, h0⟩ := B.ex
  have B1 : Box (upd H p (.lst [x, y])) a l := B.same (Rs.Same.new hp)
  refine ⟨_, hσ, a, l, _, rfl, rfl, by decide, by decide, B1, fun r H1 h0 h1 B2 k1 => ?_⟩
  have hp1 : H1 p = some (.lst [x, y]) := k1 _ _ upd_same (nn (ne_of_none ha hp).symm (ne_of_none hl hp).symm)
  have kk : But [a, l] H H1 := But.trans (But.same (Rs.Same.new hp)) k1
  rcases pick2 h0 h1 with rfl | rfl
  · exact ixL hp1 (j := 0) rfl rfl (k _ _ (.inl rfl) B2 kk)
  · exact ixL hp1 (j := 1) rfl rfl (k _ _ (.inr rfl) B2 kk)
theorem pure_law_kinds {K : PySem.W.Frag} : ∀ vs H Q E, sp_law_kinds K vs H Q E → t_law_kinds K E { nx := fun _ H' => Q .non H', rt := Q } (start N_law_kinds vs) H := by
  intro vs H Q E h
  match vs, h with
  | [b], h =>
    obtain ⟨a, l, rfl, B, k⟩ := h
    refine ⟨_, rfl, a, l, _, rfl, rfl, by decide, by decide, B, fun r H1 h0 h1 B1 k1 => ⟨_, _, rfl, rfl, _, rfl, by omega, by omega, fun D hD => ?_⟩⟩
    obtain ⟨ns, st, ha, hl, _⟩ := B1.ex
    have nDa := (ne_of_none ha hD).symm
    have nDl := (ne_of_none hl hD).symm
    refine lc_range (lo := 0) (n := (1 + r).toNat) (fun i H' => ∃ ks : List Str, H' D = some (.lst (ks.map V.str)) ∧ ks.length = i ∧ (∀ x ∈ ks, x = "number" ∨ x = "word") ∧ Box H' a l ∧ But [a, l] H H')
      ⟨[], upd_same, rfl, by simp, B1.same (Rs.Same.new hD), k1.new hD⟩ ?_ ?_
    · rintro i H' hi ⟨ks, hd, hlen, hall, B', k'⟩
      refine ⟨rfl, ?_⟩
      refine lc_yes (pick_two (i := 0) rfl B' fun z H2 hz B2 k2 => ?_)
      have hd2 := k2 _ _ hd (nn nDa nDl)
      have fin : ∀ s : Str, z = .str s → (s = "number" ∨ s = "word") → ∃ acc, H2 D = some (.lst acc) ∧ acc.length < sizeLine ∧ ∃ ks : List Str, upd H2 D (.lst (acc ++ [z])) D = some (.lst (ks.map V.str)) ∧ ks.length = i + 1 ∧ (∀ x ∈ ks, x = "number" ∨ x = "word") ∧ Box (upd H2 D (.lst (acc ++ [z]))) a l ∧ But [a, l] H (upd H2 D (.lst (acc ++ [z]))) := fun s es hs => by
        subst es
        have hz0 : H D = none := none_of_but k1 hD (nn nDa nDl)
        exact ⟨_, hd2, szlt (by rw [List.length_map]; omega), ks ++ [s], by rw [upd_same, List.map_append] <;> rfl, by simp [hlen], fun x hx => (List.mem_append.mp hx).elim (hall x) fun hx => by rw [List.mem_singleton.mp hx]; exact hs, B2.keep (fun o e => up e nDa.symm) (fun o e => up e nDl.symm), (k'.trans k2).mut hz0⟩
      rcases hz with rfl | rfl
      · exact fin _ rfl (.inl rfl)
      · exact fin _ rfl (.inr rfl)
    · rintro H' ⟨ks, hd, hlen, hall, B', k'⟩
      refine ⟨_, _, rfl, .inl ⟨SqL.of hd, fun t ht => ?_⟩⟩
      exact k _ ks _ ⟨t, rfl, upd_same⟩ ⟨by omega, by omega, hall⟩ (B'.same (Rs.Same.new ht)) (k'.new ht)
abbrev N_law_order : List Str := ["_law_box", "_law_kinds_here", "_law_left", "_law_found", "_law_turn"]
abbrev P_law_order : List Str := ["_law_box", "_law_kinds_here"]
def sp_law_order (K : PySem.W.Frag) : Sp := fun vs H Q E => match vs with
  | [b, kv] => ∃ a l ks, b = .ref a ∧ Box H a l ∧ KindsAt H kv ks ∧ GoodKinds ks ∧ ∀ f o H', H f = none → Lst TurnAt H' f o → GoodOrd ks o → Box H' a l → But [a, l] H H' → Q (.ref f) H'
  | _ => False
def t_law_order (K : PySem.W.Frag) (E : XK) : TS := (tSeq (tAsg (tLstRg (tRg1 (tCB1 (xLen K) (tVar 1)))) (gName 2))
  (tSeq (tAsg (tLst tNil) (gName 3))
   (tSeq (tFor (iRng1 (tCons (tOpD xAdd (.int 1) (tCall (sp_law_take K) [] E (tCons (tVar 0) (tCons (tCB1 (xLen K) (tVar 1)) tNil)))) tNil)) (gName 4) (tDrop (tBM K "list" rAppend (tVar 3) (tCons (tTup (tCons (tBM K "list" rPopAt (tVar 2) (tCons (tCall (sp_law_take K) [] E (tCons (tVar 0) (tCons (tCB1 (xLen K) (tVar 2)) tNil))) tNil)) (tCons (tOp (rIxL K) (tLst (tConsC (.str "up") (tConsC (.str "down") tNil))) (tCall (sp_law_take K) [] E (tCons (tVar 0) (tConsC (.int 2) tNil)))) tNil))) tNil))))
    (tRet (tVar 3)))))
theorem map_erase {α β : Type} (f : α → β) : ∀ (l : List α) (i : Nat), (l.map f).eraseIdx i = (l.eraseIdx i).map f
  | [], _ => rfl
  | _ :: _, 0 => rfl
  | a :: l, i + 1 => by simpa using map_erase f l i
theorem take_append_erase {α : Type} : ∀ {l : List α} {i : Nat} {x : α}, l[i]? = some x → l.Perm (x :: l.eraseIdx i)
  | [], _, _, h => by simp at h
  | a :: l, 0, x, h => by simp at h; subst h; exact .refl _
  | a :: l, i + 1, x, h => by
    have ih := take_append_erase (l := l) (i := i) (x := x) (by simpa using h)
    exact (ih.cons a).trans (List.Perm.swap x a _)
theorem pure_law_order {K : PySem.W.Frag} : ∀ vs H Q E, sp_law_order K vs H Q E → t_law_order K E { nx := fun _ H' => Q .non H', rt := Q } (start N_law_order vs) H := by
  intro vs H Q E h
  match vs, h with
  | [b, kv], h =>
    obtain ⟨a, l, ks, rfl, B, hk, gk, k⟩ := h
    obtain ⟨ns, st, ha, hl, _⟩ := B.ex
    have g1 := gk.pos
    have g4 := gk.le
    obtain ⟨kt, rfl, hkt⟩ := hk
    refine ⟨_, rfl, _, _, rfl, .inr (SqT.of hkt), _, rfl, RgOk.of_le (by decide) (by rw [List.length_map]; omega) (by decide) (by omega), fun q hq => ?_⟩
    refine ⟨sz0, fun f hf => ?_⟩
    have B0 : Box (upd (upd H q (.lst (rgV 0 ((ks.map V.str).length : Nat)))) f (.lst [])) a l := (B.same (Rs.Same.new hq)).same (Rs.Same.new hf)
    have nqf : q ≠ f := ne_of_none upd_same hf
    have hf0 : H f = none := none_of_but (S := []) (But.same (Rs.Same.new hq)) hf (by simp)
    have qa := (ne_of_none ha hq).symm
    have ql := (ne_of_none hl hq).symm
    have fa := (ne_of_none ha hf0).symm
    have fl := (ne_of_none hl hf0).symm
    have k0 : But [a, l] H (upd (upd H q (.lst (rgV 0 ((ks.map V.str).length : Nat)))) f (.lst [])) := (But.same (Rs.Same.new hq)).new hf
    have kt0 := k0 _ _ hkt (nn (ne_of hkt ha (by intro z; cases z)) (ne_of hkt hl (by intro z; cases z)))
    refine ⟨_, rfl, _, rfl, _, _, rfl, .inr (SqT.of kt0), a, l, _, rfl, rfl, by rw [List.length_map]; omega, by rw [List.length_map]; omega, B0, fun r H1 h0 h1 B1 k1 => ?_⟩
    rw [List.length_map] at h1
    refine ⟨_, _, rfl, rfl, _, rfl, by omega, by omega, ?_⟩
    refine for_range (lo := 0) (n := (1 + r).toNat) (fun i σ H' => ∃ (ls : List Nat) (o : Ord) (x4 : Option V), σ = [some (.ref a), some (.ref kt), some (.ref q), some (.ref f), x4] ∧ H' q = some (.lst (ls.map fun (n : Nat) => V.int (n : Int))) ∧ Lst TurnAt H' f o ∧
      Box H' a l ∧ But [a, l] H H' ∧ (o.map (·.1) ++ ls).Perm (List.range ks.length) ∧ o.length = i) ?_ ?_ ?_
    · refine ⟨List.range ks.length, [], none, rfl, ?_, ⟨[], k1 _ _ upd_same (nn fa fl), .nil⟩, B1, k0.trans k1, by simp, rfl⟩
      rw [k1 q _ (un upd_same hf) (nn qa ql)]
      unfold rgV
      rw [List.length_map]
      simp
    · rintro i σ H' hi ⟨ls, o, x4, rfl, hq', ⟨tv, hf', ht'⟩, B', k', hp, hlen⟩
      have hll : ls.length + i = ks.length := by
        have e := hp.length_eq
        simp at e
        omega
      refine ⟨_, rfl, .inl ⟨rfl, _, SqL.of hf'⟩, _, rfl, .inl ⟨rfl, _, SqL.of hq'⟩, _, rfl, _, rfl, _, _, rfl, .inl (SqL.of hq'), a, l, _, rfl, rfl, by rw [List.length_map]; omega, by rw [List.length_map]; omega, B', fun r2 H2 h20 h21 B2 k2 => ?_⟩
      rw [List.length_map] at h21
      have hq2 := k2 _ _ hq' (nn qa ql)
      have hf2 := k2 _ _ hf' (nn fa fl)
      obtain ⟨j, rfl⟩ : ∃ j : Nat, r2 = (j : Int) := ⟨r2.toNat, by omega⟩
      have hj : j < ls.length := by omega
      refine ⟨_, _, _, j, _, rfl, rfl, hq2, by omega, by omega, seqIx (by rw [List.length_map]; exact hj), by rw [List.getElem?_map, List.getElem?_eq_getElem hj]; rfl, ?_⟩
      have hf3 : upd H2 q (.lst ((ls.map fun (n : Nat) => V.int (n : Int)).eraseIdx j)) f = _ := up hf2 nqf.symm
      have B3 : Box (upd H2 q (.lst ((ls.map fun (n : Nat) => V.int (n : Int)).eraseIdx j))) a l := B2.keep (fun o e => up e qa.symm) (fun o e => up e ql.symm)
      have k3 : But [a, l] H (upd H2 q (.lst ((ls.map fun (n : Nat) => V.int (n : Int)).eraseIdx j))) := (k'.trans k2).mut hq
      have t3 : TupLe H' (upd H2 q (.lst ((ls.map fun (n : Nat) => V.int (n : Int)).eraseIdx j))) := (B'.tup k2).list hq2
      refine pick_two (i := 0) rfl B3 fun z H4 hz B4 k4 => ?_
      have hf4 := k4 _ _ hf3 (nn fa fl)
      have hq4 := k4 _ _ upd_same (nn qa ql)
      have t4 := t3.trans (B3.tup k4)
      refine ⟨szle (by show 2 ≤ 100000; decide), fun t ht => ?_⟩
      have nft := ne_of_none hf4 ht
      have nqt := ne_of_none hq4 ht
      have ol : o.length ≤ 4 := by omega
      refine ⟨_, _, _, rfl, rfl, un hf4 ht, szlt (by have := ht'.length; omega), ?_⟩
      obtain ⟨w, rfl⟩ : ∃ w : Bool, z = .str (wayS w) := by
        rcases hz with rfl | rfl
        · exact ⟨true, rfl⟩
        · exact ⟨false, rfl⟩
      refine ⟨ls.eraseIdx j, o ++ [(ls[j], w)], _, rfl, ?_, ⟨_, upd_same, ?_⟩, (B4.same (Rs.Same.new ht)).keep (fun o e => up e fa.symm) (fun o e => up e fl.symm), ((k3.trans k4).new ht).mut hf0, ?_, by simp [hlen]⟩
      · rw [upd_ne nqf, un hq4 ht, map_erase]
      · refine P2.app (Paired.tl TurnAt.st ((t4.trans (TupLe.new ht)).list (un hf4 ht)) ht') (P2.one ⟨t, rfl, ?_⟩)
        rw [upd_ne nft.symm]
        exact upd_same
      · refine List.Perm.trans ?_ hp
        rw [List.map_append, List.append_assoc]
        exact List.Perm.append_left _ (take_append_erase (List.getElem?_eq_getElem hj)).symm
    · rintro σ H' ⟨ls, o, x4, rfl, hq', hf', B', k', hp, hlen⟩
      refine ⟨_, rfl, k f o H' hf0 hf' ⟨fun e => ?_, fun t ht => ?_, ?_⟩ B' k'⟩
      · subst e
        simp at hlen
        omega
      · have : t.1 ∈ List.range ks.length := hp.mem_iff.mp (List.mem_append_left _ (List.mem_map_of_mem ht))
        exact List.mem_range.mp this
      · exact (List.nodup_append.mp (hp.nodup_iff.mpr List.nodup_range)).1
abbrev N_law_value : List Str := ["_law_box", "_law_kind", "_law_many", "_law_letters", "_law_k"]
abbrev P_law_value : List Str := ["_law_box", "_law_kind"]
def sp_law_value (K : PySem.W.Frag) : Sp := fun vs H Q E => match vs with
  | [b, kv] => ∃ a l kd, b = .ref a ∧ kv = .str kd ∧ (kd = "number" ∨ kd = "word") ∧ Box H a l ∧ ∀ x H', isValue kd x = true → Box H' a l → But [a, l] H H' → Q (kV x) H'
  | _ => False
def t_law_value (K : PySem.W.Frag) (E : XK) : TS := (tSeq (tIfS (tTest (tOpC rEq (tVar 1) (.str "number"))) (tRet (tOp (rIxL K) (tLst (tCons (tCall (sp_law_take K) [] E (tCons (tVar 0) (tConsC (.int 4) tNil))) (tCons (tOpC xSub (tCall (sp_law_take K) [] E (tCons (tVar 0) (tConsC (.int 1999) tNil))) (.int 999)) (tCons (tOp (rIxL K) (tLst (tConsC (.int (-999)) (tConsC (.int 999) (tConsC (.int 0) tNil)))) (tCall (sp_law_take K) [] E (tCons (tVar 0) (tConsC (.int 3) tNil)))) tNil)))) (tCall (sp_law_take K) [] E (tCons (tVar 0) (tConsC (.int 3) tNil))))) tNext)
  (tSeq (tAsg (tCall (sp_law_take K) [] E (tCons (tVar 0) (tCons (tOp (rIxL K) (tLst (tConsC (.int 3) (tConsC (.int 7) tNil))) (tCall (sp_law_take K) [] E (tCons (tVar 0) (tConsC (.int 2) tNil)))) tNil))) (gName 2))
   (tSeq (tAsg (tOp (rIxL K) (tLst (tConsC (.str "abz") (tConsC (.str "abcdefghijklmnopqrstuvwxyz") tNil))) (tCall (sp_law_take K) [] E (tCons (tVar 0) (tConsC (.int 2) tNil)))) (gName 3))
    (tRet (tM1 (xJoin K) (tC (.str "")) (tLc (iRng1 (tCons (tVar 2) tNil)) (gName 4) tYes (tOp rIxS (tVar 3) (tCall (sp_law_take K) [] E0 (tCons (tVar 0) (tCons (tCB1 xLenS (tVar 3)) tNil)))) [4]))))))
theorem joinL_nil : ∀ ps : List (List Nat), TL.joinL [] ps = ps.flatten
  | [] => rfl
  | [p] => by simp [TL.joinL]
  | p :: q :: r => by
    show p ++ ([] ++ TL.joinL [] (q :: r)) = _
    rw [joinL_nil (q :: r)]
    simp
theorem join_signs (cs : List Nat) : Txt.join "" (cs.map fun c => (⟨#[c]⟩ : Str)) = ⟨cs.toArray⟩ := by
  apply str_ext
  have e := TL.tl_join "" (cs.map fun c => (⟨#[c]⟩ : Str))
  rw [TL.join_eq]
  show TL.tl (Str.join "" (cs.map fun c => (⟨#[c]⟩ : Str))) = cs
  rw [e]
  have e2 : TL.tl ("" : Str) = [] := by decide +kernel
  rw [e2, joinL_nil, List.map_map]
  clear e
  induction cs with
  | nil => rfl
  | cons c cs ih =>
    rw [List.map_cons, List.flatten_cons, ih]
    rfl
theorem sign_map (cs : List Nat) : (cs.map fun c => V.str ⟨#[c]⟩) = (cs.map fun c => (⟨#[c]⟩ : Str)).map V.str := by rw [List.map_map] <;> rfl
theorem sum_ones (cs : List Nat) : ((cs.map fun c => (⟨#[c]⟩ : Str)).map (·.length)).sum = cs.length := by
  induction cs with
  | nil => rfl
  | cons c cs ih => rw [List.map_cons, List.map_cons, List.sum_cons, ih, List.length_cons]; show 1 + _ = _; omega
theorem abz_letters : ∀ c ∈ ("abz" : Str).cps.toList, c ∈ letters := by decide +kernel
theorem abc_letters : ("abcdefghijklmnopqrstuvwxyz" : Str).cps.toList = letters := rfl
theorem pure_law_value {K : PySem.W.Frag} : ∀ vs H Q E, sp_law_value K vs H Q E → t_law_value K E { nx := fun _ H' => Q .non H', rt := Q } (start N_law_value vs) H := by
  intro vs H Q E h
  match vs, h with
  | [b, kv], h =>
    obtain ⟨a, l, kd, rfl, rfl, hkd, B, k⟩ := h
    obtain ⟨ns, st, ha, hl, _⟩ := B.ex
    refine ⟨_, rfl, rfl, _, rfl, ?_⟩
    rcases hkd with rfl | rfl
    · -- a number
      have e1 : decide (V.str "number" = V.str "number") = true := decide_eq_true rfl
      rw [e1]
      refine ⟨_, rfl, a, l, _, rfl, rfl, by decide, by decide, B, fun r1 H1 a0 a1 B1 k1 => ?_⟩
      refine ⟨_, rfl, a, l, _, rfl, rfl, by decide, by decide, B1, fun r2 H2 b0 b1 B2 k2 => ⟨_, _, rfl, rfl, ?_⟩⟩
      refine ⟨szle (by show 3 ≤ 100000; decide), fun p hp => ?_⟩
      have B2' := B2.same (Rs.Same.new (o := .lst [.int (-999), .int 999, .int 0]) hp)
      refine ⟨_, rfl, a, l, _, rfl, rfl, by decide, by decide, B2', fun r3 H3 c0 c1 B3 k3 => ?_⟩
      obtain ⟨_, _, ha2, hl2, _⟩ := B2.ex
      have hp3 := k3 _ _ upd_same (nn (ne_of_none ha2 hp).symm (ne_of_none hl2 hp).symm)
      have k13 : But [a, l] H H3 := (k1.trans k2).trans ((But.same (Rs.Same.new hp)).trans k3)
      have last : ∀ z : Int, -999 ≤ z → z ≤ 999 → ∀ x y : Int, r1 = x → r2 - 999 = y → 3 ≤ sizeLine ∧ ∀ p', H3 p' = none → (tCall (sp_law_take K) [] E (tCons (tVar 0) (tConsC (.int 3) tNil))) [some (.ref a), some (.str "number"), none, none, none] (upd H3 p' (.lst [.int x, .int y, .int z])) fun y H4 => rIxL K (.ref p') y H4 Q := fun z z0 z1 x y ex ey => by
        refine ⟨szle (by show 3 ≤ 100000; decide), fun p' hp' => ?_⟩
        have B3' := B3.same (Rs.Same.new (o := .lst [.int x, .int y, .int z]) hp')
        refine ⟨_, rfl, a, l, _, rfl, rfl, by decide, by decide, B3', fun r4 H4 d0 d1 B4 k4 => ?_⟩
        obtain ⟨_, _, ha3, hl3, _⟩ := B3.ex
        have hp4 := k4 _ _ upd_same (nn (ne_of_none ha3 hp').symm (ne_of_none hl3 hp').symm)
        have k14 : But [a, l] H H4 := k13.trans ((But.same (Rs.Same.new hp')).trans k4)
        have fin : ∀ i : Int, -999 ≤ i → i ≤ 999 → Q (.int i) H4 := fun i i0 i1 => k (.inl i) H4 (by simp [isValue, i0, i1]; decide +kernel) B4 k14
        rcases pick3 d0 d1 with rfl | rfl | rfl
        · exact ixL hp4 (j := 0) rfl rfl (fin _ (by omega) (by omega))
        · exact ixL hp4 (j := 1) rfl rfl (fin _ (by omega) (by omega))
        · exact ixL hp4 (j := 2) rfl rfl (fin _ z0 z1)
      rcases pick3 c0 c1 with rfl | rfl | rfl
      · exact ixL hp3 (j := 0) rfl rfl (last _ (by decide) (by decide) _ _ rfl rfl)
      · exact ixL hp3 (j := 1) rfl rfl (last _ (by decide) (by decide) _ _ rfl rfl)
      · exact ixL hp3 (j := 2) rfl rfl (last _ (by decide) (by decide) _ _ rfl rfl)
    · -- a word
      have e1 : decide (V.str "word" = V.str "number") = false := by decide +kernel
      rw [e1]
      refine ⟨_, rfl, pick_two (i := 0) rfl B fun z H1 hz B1 k1 => ?_⟩
      have one : ∀ m : Int, 0 < m → m ≤ 7 → z = .int m → (tNil (([some (.ref a), some (.str "word"), none, none, none] : List (Option V))) H1 fun xs H2 => sp_law_take K (.ref a :: z :: xs) H2 (fun v H3 => (tSeq (tAsg (tOp (rIxL K) (tLst (tConsC (.str "abz") (tConsC (.str "abcdefghijklmnopqrstuvwxyz") tNil))) (tCall (sp_law_take K) [] E (tCons (tVar 0) (tConsC (.int 2) tNil)))) (gName 3))
          (tRet (tM1 (xJoin K) (tC (.str "")) (tLc (iRng1 (tCons (tVar 2) tNil)) (gName 4) tYes (tOp rIxS (tVar 3) (tCall (sp_law_take K) [] E0 (tCons (tVar 0) (tCons (tCB xLenS (tCons (tVar 3) tNil)) tNil)))) [4])))) { nx := fun _ H' => Q .non H', rt := Q } ([some (.ref a), some (.str "word"), some v, none, none]) H3) E) := fun m m0 m7 em => by
        subst em
        refine ⟨a, l, m, rfl, rfl, m0, by omega, B1, fun n H2 n0 n1 B2 k2 => ?_⟩
        refine pick_two (i := 0) rfl B2 fun t H3 ht B3 k3 => ?_
        have k03 : But [a, l] H H3 := (k1.trans k2).trans k3
        obtain ⟨ls, el, hpos, hsz, hlet⟩ : ∃ ls : Str, t = .str ls ∧ 0 < ls.length ∧ ls.length ≤ 26 ∧ ∀ c ∈ ls.cps.toList, c ∈ letters := by
          rcases ht with rfl | rfl
          · exact ⟨_, rfl, by decide +kernel, by decide +kernel, abz_letters⟩
          · exact ⟨_, rfl, by decide +kernel, by decide +kernel, fun c h => h⟩
        subst el
        refine ⟨⟨_, rfl⟩, _, rfl, _, rfl, by omega, by omega, fun D hD => ?_⟩
        obtain ⟨_, _, ha3, hl3, _⟩ := B3.ex
        have nDa := (ne_of_none ha3 hD).symm
        have nDl := (ne_of_none hl3 hD).symm
        have hD0 : H D = none := none_of_but k03 hD (nn nDa nDl)
        refine lc_range (lo := 0) (n := n.toNat) (fun i H' => ∃ cs : List Nat, H' D = some (.lst (cs.map fun c => V.str ⟨#[c]⟩)) ∧ cs.length = i ∧ (∀ c ∈ cs, c ∈ letters) ∧ Box H' a l ∧ But [a, l] H H')
          ⟨[], upd_same, rfl, by simp, B3.same (Rs.Same.new hD), k03.new hD⟩ ?_ ?_
        · rintro i H' hi ⟨cs, hd, hlen, hall, B', k'⟩
          refine ⟨rfl, lc_yes ?_⟩
          refine ⟨_, rfl, _, rfl, _, rfl, _, rfl, szle (by omega), a, l, _, rfl, rfl, by omega, by omega, B', fun r H2 r0 r1 B2 k2 => ?_⟩
          have hd2 := k2 _ _ hd (nn nDa nDl)
          obtain ⟨j, rfl⟩ : ∃ j : Nat, r = (j : Int) := ⟨r.toNat, by omega⟩
          have hj : j < ls.cps.toList.length := by
            have : ls.length = ls.cps.toList.length := by simp [Str.length]
            omega
          refine ⟨_, _, _, rfl, rfl, szle (by omega), atI_nat (List.getElem?_eq_getElem hj), _, hd2, szlt (by rw [List.length_map]; omega), cs ++ [ls.cps.toList[j]], ?_, by simp [hlen], fun c hc => ?_, B2.keep (fun o e => up e nDa.symm) (fun o e => up e nDl.symm), (k'.trans k2).mut hD0⟩
          · rw [upd_same, List.map_append] <;> rfl
          · rcases List.mem_append.mp hc with h | h
            · exact hall c h
            · rw [List.mem_singleton.mp h]
              exact hlet _ (List.getElem_mem hj)
        · rintro H' ⟨cs, hd, hlen, hall, B', k'⟩
          refine ⟨_, D, (cs.map fun c => (⟨#[c]⟩ : Str)), rfl, rfl, .inl (SqL.of (by rw [hd, sign_map])), ?_, ?_⟩
          · rw [sum_ones]
            have e0 : ("" : Str).length = 0 := by decide +kernel
            rw [e0]
            omega
          · rw [join_signs]
            refine k (.inr ⟨cs.toArray⟩) H' ?_ B' k'
            simp only [isValue, Bool.and_eq_true, decide_eq_true_eq, List.all_eq_true]
            refine ⟨trivial, ?_, fun c hc => hall c (by simpa using hc)⟩
            show cs.toArray.size ≤ 6
            rw [List.size_toArray]
            omega
      rcases hz with rfl | rfl
      · exact one 3 (by decide) (by decide) rfl
      · exact one 7 (by decide) (by decide) rfl
abbrev N_law_pairs : List Str := ["_law_rows_here", "_law_k"]
abbrev P_law_pairs : List Str := ["_law_rows_here"]
/-- (number, row) as they come -/
def prs (rows : List Row) : List Pr := (List.range rows.length).map fun (i : Nat) => ((i : Int), rows.getD i [])
def sp_law_pairs (K : PySem.W.Frag) : Sp := fun vs H Q E => match vs with
  | [v] => ∃ rows, LstV RowAt H v rows ∧ rows.length ≤ 1000 ∧ ∀ p H', H p = none → Lst PairAt H' p (prs rows) → Same H H' → Q (.ref p) H'
  | _ => False
def t_law_pairs (K : PySem.W.Frag) (E : XK) : TS := (tRet (tLc (iRng1 (tCons (tCB1 (xLen K) (tVar 0)) tNil)) (gName 1) tYes (tTup (tCons (tVar 1) (tCons (tOp (rIxL K) (tVar 0) (tVar 1)) tNil))) [1]))
theorem prs_take {rows : List Row} {i : Nat} {r : Row} (h : rows[i]? = some r) : ((List.range (i + 1)).map fun (i : Nat) => ((i : Int), rows.getD i [])) = ((List.range i).map fun (i : Nat) => ((i : Int), rows.getD i [])) ++ [((i : Int), r)] := by
  rw [List.range_succ, List.map_append]
  simp only [List.map_cons, List.map_nil]
  rw [List.getD_eq_getElem?_getD, h]
  rfl
theorem pure_law_pairs {K : PySem.W.Frag} : ∀ vs H Q E, sp_law_pairs K vs H Q E → t_law_pairs K E { nx := fun _ H' => Q .non H', rt := Q } (start N_law_pairs vs) H := by
  intro vs H Q E h
  match vs, h with
  | [v], h =>
    obtain ⟨rows, ⟨lr, rfl, rv, hr, hrows⟩, hlen, k⟩ := h
    have hl := hrows.length
    refine ⟨_, rfl, _, _, rfl, .inl (SqL.of hr), _, rfl, by omega, by omega, fun D hD => ?_⟩
    refine lc_range (lo := 0) (n := (rv.length : Int).toNat) (fun i H' => ∃ vs, H' D = some (.lst vs) ∧ Paired (PairAt H') vs ((List.range i).map fun (i : Nat) => ((i : Int), rows.getD i [])) ∧ Same H H') ⟨[], upd_same, .nil, Rs.Same.new hD⟩ ?_ ?_
    · rintro i H' hi ⟨vs, hd, hp, s⟩
      have hi' : i < rows.length := by omega
      obtain ⟨w, hw, hra⟩ := P2.get' hrows (List.getElem?_eq_getElem hi')
      refine ⟨rfl, lc_yes ⟨_, rfl, _, rfl, _, rfl, _, _, _, _, rfl, rfl, SqL.of (s _ _ hr), at_of (j := i) (by omega) hw, szle (by show 2 ≤ 100000; decide), fun t ht => ?_⟩⟩
      have hdt := un (u := .tup [.int (0 + (i : Int)), w]) hd ht
      refine ⟨_, hdt, szlt (by have := hp.length; simp at this; omega), vs ++ [.ref t], upd_same, ?_, Rs.Same.mut (s.trans (Rs.Same.new ht)) hD⟩
      have tt : TupLe H' (upd (upd H' t (.tup [.int (0 + (i : Int)), w])) D (.lst (vs ++ [.ref t]))) := (TupLe.new ht).list hdt
      have th : TupLe H (upd (upd H' t (.tup [.int (0 + (i : Int)), w])) D (.lst (vs ++ [.ref t]))) := (TupLe.same s).trans tt
      rw [prs_take (List.getElem?_eq_getElem hi')]
      refine P2.app (Paired.tl PairAt.st tt hp) (P2.one ⟨w, ⟨t, rfl, ?_⟩, RowAt.st _ _ _ _ th hra⟩)
      rw [upd_ne (ne_of_none hd ht).symm, upd_same]
      have z : (0 + (i : Int)) = i := by omega
      rw [z]
    · rintro H' ⟨vs, hd, hp, s⟩
      refine k D H' hD ⟨vs, hd, ?_⟩ s
      have e : (rv.length : Int).toNat = rows.length := by omega
      rw [e] at hp
      exact hp
abbrev N_law_ahead : List Str := ["_law_order_here", "_law_one", "_law_other", "_law_column", "_law_way", "_law_mine", "_law_theirs"]
abbrev P_law_ahead : List Str := ["_law_order_here", "_law_one", "_law_other"]
def sp_law_ahead (K : PySem.W.Frag) : Sp := sp_is_before K
def t_law_ahead (K : PySem.W.Frag) (E : XK) : TS := (tSeq (tFor (iList K (tVar 0)) (gTup K 2 (gCons (gName 3) (gCons (gName 4) gNil))) 
    (tSeq (tPar 5 6 (tCons (tOp (rIxT K) (tOpC (rIxT K) (tVar 1) (.int 1)) (tVar 3)) (tCons (tOp (rIxT K) (tOpC (rIxT K) (tVar 2) (.int 1)) (tVar 3)) tNil)))
    (tIfS (tTest (tOp rNe (tVar 5) (tVar 6))) (tRet (tIf (tTest (tOpC rEq (tVar 4) (.str "up"))) (tOp xLtV (tVar 5) (tVar 6)) (tOp xGtV (tVar 5) (tVar 6)))) tNext)))
  (tRet (tOp xLt (tOpC (rIxT K) (tVar 1) (.int 0)) (tOpC (rIxT K) (tVar 2) (.int 0)))))
theorem pure_law_ahead {K : PySem.W.Frag} : ∀ vs H Q E, sp_law_ahead K vs H Q E → t_law_ahead K E { nx := fun _ H' => Q .non H', rt := Q } (start N_law_ahead vs) H := by
  intro vs H Q E h
  unfold sp_law_ahead at h
  match vs, h with
  | [vo, a, b], h =>
    obtain ⟨o, p, q, ⟨lo, rfl, ts, hl, hts⟩, ⟨w1, ha, hr1⟩, ⟨w2, hb, hr2⟩, hc, k⟩ := h
    refine ⟨_, rfl, lo, rfl, ⟨_, SqL.of hl⟩, for_list (K := K) (a := lo) (xs := ts) (fun i σ H' => ∃ x3 x4 x5 x6, σ = [some (.ref lo), some a, some b, x3, x4, x5, x6] ∧ H' = H ∧ before o p q = before (o.drop i) p q) ⟨none, none, none, none, rfl, rfl, rfl⟩ ?_ ?_ ?_⟩
    · rintro i σ H' _ ⟨_, _, _, _, _, rfl, _⟩
      exact SqL.of hl
    · rintro i v σ H' hi ⟨x3, x4, x5, x6, rfl, rfl, he⟩
      obtain ⟨t, ht, at_, rfl, et⟩ := P2.get hts hi
      have hd : o.drop i = t :: o.drop (i + 1) := drop_cons ht
      obtain ⟨c1, c2, c3⟩ := hc t (List.mem_of_getElem? ht)
      refine ⟨at_, _, rfl, SqT.of et, rfl, _, _, rfl, _, _, rfl, rfl, ?_⟩
      refine ⟨_, rfl, ixT ha (j := 1) rfl rfl ⟨_, rfl, ixT hr1 (j := t.1) rfl (by rw [List.getElem?_map, kcol_get c1]; rfl) ⟨_, rfl, ixT hb (j := 1) rfl rfl ⟨_, rfl, ixT hr2 (j := t.1) rfl (by rw [List.getElem?_map, kcol_get c2]; rfl) ⟨_, _, rfl, _, rfl, _, rfl, kV_scal c3, _, rfl, ?_⟩⟩⟩⟩⟩
      rw [kV_dec]
      rw [hd, before_cons] at he
      by_cases e : kcol p.2 t.1 = kcol q.2 t.1
      · rw [decide_eq_true e]
        rw [if_pos e] at he
        exact ⟨_, _, _, _, rfl, rfl, he⟩
      · rw [decide_eq_false e]
        rw [if_neg e] at he
        refine ⟨_, rfl, rfl, _, rfl, ?_⟩
        rw [way_eq]
        rw [he] at k
        cases hw : t.2 with
        | true =>
          rw [hw] at k
          refine ⟨_, rfl, _, rfl, ltV_go c3 ?_⟩
          have z : (keyLt (kcol p.2 t.1) (kcol q.2 t.1) == true) = keyLt (kcol p.2 t.1) (kcol q.2 t.1) := by cases keyLt (kcol p.2 t.1) (kcol q.2 t.1) <;> rfl
          rw [z] at k
          exact k
        | false =>
          rw [hw] at k
          refine ⟨_, rfl, _, rfl, gtV_go c3 ?_⟩
          rw [keyLt_tot c3 e]
          have z : (keyLt (kcol p.2 t.1) (kcol q.2 t.1) == false) = !keyLt (kcol p.2 t.1) (kcol q.2 t.1) := by cases keyLt (kcol p.2 t.1) (kcol q.2 t.1) <;> rfl
          rw [z] at k
          exact k
    · rintro σ H' ⟨x3, x4, x5, x6, rfl, rfl, he⟩
      have e0 : before o p q = decide (p.1 < q.1) := by rw [he, List.drop_of_length_le (by rw [← hts.length]; exact Nat.le_refl _)]; rfl
      rw [e0] at k
      exact ⟨_, rfl, ixT ha (j := 0) rfl rfl ⟨_, rfl, ixT hb (j := 0) rfl rfl ⟨_, _, rfl, rfl, k⟩⟩⟩
abbrev N_law_rows : List Str := ["_law_box", "_law_kinds_here", "_law_most", "_law_found", "_law_way", "_law_turn", "_law_row", "_law_kind"]
abbrev P_law_rows : List Str := ["_law_box", "_law_kinds_here", "_law_most"]
def sp_law_rows (K : PySem.W.Frag) : Sp := fun vs H Q E => match vs with
  | [b, kv, m] => ∃ a l ks n, b = .ref a ∧ m = .int n ∧ 0 ≤ n ∧ n ≤ 1000 ∧ Box H a l ∧ KindsAt H kv ks ∧ GoodKinds ks ∧
    ∀ f rows H', H f = none → Lst RowAt H' f rows → (∀ r ∈ rows, isRow ks r = true) → (rows.length : Int) ≤ n → Box H' a l → But [a, l] H H' → Q (.ref f) H'
  | _ => False
def t_law_rows (K : PySem.W.Frag) (E : XK) : TS := (tSeq (tAsg (tLst tNil) (gName 3))
  (tSeq (tAsg (tCall (sp_law_take K) [] E (tCons (tVar 0) (tConsC (.int 4) tNil))) (gName 4))
   (tSeq (tFor (iRng1 (tCons (tCall (sp_law_take K) [] E (tCons (tVar 0) (tCons (tOpC xAdd (tVar 2) (.int 1)) tNil))) tNil)) (gName 5) 
      (tSeq (tAsg (tLc (iTup K (tVar 1)) (gName 7) tYes (tCall (sp_law_value K) [] E0 (tCons (tVar 0) (tCons (tVar 7) tNil))) [7]) (gName 6))
      (tSeq (tIfS (tAnd (tTest (tOp (xNeE K) (tVar 3) (tLst tNil))) (tTest (tOpC rEq (tCall (sp_law_take K) [] E (tCons (tVar 0) (tConsC (.int 3) tNil))) (.int 0)))) (tAsg (tCB1 (xList K) (tOp (rIxL K) (tVar 3) (tCall (sp_law_take K) [] E (tCons (tVar 0) (tCons (tCB1 (xLen K) (tVar 3)) tNil))))) (gName 6)) tNext)
       (tSeq (tIfS (tAnd (tTest (tOp (xNeE K) (tVar 3) (tLst tNil))) (tAnd (tTest (tOpC xLt (tVar 4) (.int 2))) (tTest (tOpC rEq (tOpC (rIxT K) (tVar 1) (.int 0)) (.str "number"))))) (tAsg (tCB xMax2 (tConsC (.int (-999)) (tCons (tCB xMin2 (tConsC (.int 999) (tCons (tOp xAdd (tOpC (rIxT K) (tOpC (rIxL K) (tVar 3) (.int (-1))) (.int 0)) (tOp xMul (tOp (rIxL K) (tLst (tConsC (.int 1) (tConsC (.int (-1)) tNil))) (tVar 4)) (tCall (sp_law_take K) [] E (tCons (tVar 0) (tConsC (.int 3) tNil))))) tNil))) tNil))) (gSubC (tVar 6) (.int 0) rSetL)) tNext)
        (tDrop (tBM K "list" rAppend (tVar 3) (tCons (tCB1 (xTuple K) (tVar 6)) tNil)))))))
    (tRet (tVar 3)))))
theorem isRow_of {ks : List Str} {r : Row} (h1 : r.length = ks.length) (h2 : ∀ i, i < ks.length → isValue (ks.getD i "") (kcol r i) = true) : isRow ks r = true := by
  unfold isRow
  simp only [Bool.and_eq_true, decide_eq_true_eq, List.all_eq_true, List.mem_range]
  exact ⟨h1, h2⟩
theorem kcol_append {r : Row} {x : Key} {i : Nat} : kcol (r ++ [x]) i = if i < r.length then kcol r i else if i = r.length then x else .inl 0 := by
  unfold kcol
  rw [List.getD_eq_getElem?_getD, List.getD_eq_getElem?_getD, List.getElem?_append]
  by_cases h : i < r.length
  · rw [if_pos h, if_pos h]
  · rw [if_neg h, if_neg h]
    by_cases e : i = r.length
    · subst e
      simp
    · rw [if_neg e, List.getElem?_eq_none (by simp; omega)]
      rfl
theorem kcol_set {r : Row} {x : Key} (h : 0 < r.length) (i : Nat) : kcol (r.set 0 x) i = if i = 0 then x else kcol r i := by
  unfold kcol
  rw [List.getD_eq_getElem?_getD, List.getD_eq_getElem?_getD]
  by_cases e : i = 0
  · subst e
    rw [if_pos rfl, List.getElem?_set_self h]
    rfl
  · rw [if_neg e, List.getElem?_set_ne (by omega)]
theorem pure_law_rows {K : PySem.W.Frag} : ∀ vs H Q E, sp_law_rows K vs H Q E → t_law_rows K E { nx := fun _ H' => Q .non H', rt := Q } (start N_law_rows vs) H := by
  intro vs H Q E h
  match vs, h with
  | [b, kv, m], h =>
    obtain ⟨a, l, ks, n, rfl, rfl, hn0, hn, B, ⟨kt, rfl, hkt⟩, gk, k⟩ := h
    obtain ⟨_, _, ha, hl, _⟩ := B.ex
    have g1 := gk.pos
    have g4 := gk.le
    refine ⟨sz0, fun f hf => ?_⟩
    have fa := (ne_of_none ha hf).symm
    have fl := (ne_of_none hl hf).symm
    refine ⟨_, rfl, a, l, _, rfl, rfl, by decide, by decide, B.same (Rs.Same.new hf), fun way H1 w0 w4 B1 k1 => ?_⟩
    refine ⟨_, rfl, _, rfl, _, _, rfl, rfl, a, l, _, rfl, rfl, by omega, by omega, B1, fun many H2 m0 m1 B2 k2 => ⟨_, rfl, by omega, by omega, ?_⟩⟩
    refine for_range (lo := 0) (n := many.toNat) (fun i σ H' => ∃ (rows : List Row) (x5 x6 : Option V), σ = [some (.ref a), some (.ref kt), some (.int n), some (.ref f), some (.int way), x5, x6, none] ∧ Lst RowAt H' f rows ∧ (∀ r ∈ rows, isRow ks r = true) ∧ rows.length = i ∧ Box H' a l ∧ But [a, l] H H') ?_ ?_ ?_
    · exact ⟨[], none, none, rfl, ⟨[], k2 _ _ (k1 _ _ upd_same (nn fa fl)) (nn fa fl), .nil⟩, by simp, rfl, B2, (But.same (Rs.Same.new hf)).trans (k1.trans k2)⟩
    · rintro i σ H' hi ⟨rows, x5, x6, rfl, ⟨fv, hf', hrows⟩, hall, hlen, B', k'⟩
      have flen := hrows.length
      -- the row: a comprehension
      have kt' : ∀ {H'' : Hp}, But [a, l] H H'' → H'' kt = some (.tup (ks.map V.str)) := fun kk => kk _ _ hkt (nn (ne_of hkt ha (by intro z; cases z)) (ne_of hkt hl (by intro z; cases z)))
      refine ⟨_, rfl, kt, rfl, ⟨_, SqT.of (kt' k')⟩, fun D hD => ?_⟩
      obtain ⟨_, _, ha', hl', _⟩ := B'.ex
      have Da := (ne_of_none ha' hD).symm
      have Dl := (ne_of_none hl' hD).symm
      have Df := (ne_of_none hf' hD).symm
      have hD0 : H D = none := none_of_but k' hD (nn Da Dl)
      refine lc_tup (K := K) (a := kt) (xs := ks.map V.str) (fun j H2 => ∃ r : Row, H2 D = some (.lst (r.map kV)) ∧ r.length = j ∧ (∀ c, c < j → isValue (ks.getD c "") (kcol r c) = true) ∧ Box H2 a l ∧ But [a, l] H' H2)
        ⟨[], upd_same, rfl, fun c h => absurd h (Nat.not_lt_zero _), B'.same (Rs.Same.new hD), But.same (Rs.Same.new hD)⟩ ?_ ?_ ?_
      · rintro j H2 _ ⟨r, _, _, _, _, k2⟩
        exact SqT.of (kt' (k'.trans k2))
      · rintro j v H2 hj ⟨r, hd, hrl, hrv, B2, k2⟩
        rw [List.getElem?_map] at hj
        obtain ⟨kd, hkd, rfl⟩ := Option.map_eq_some_iff.mp hj
        have hjl := (List.getElem?_eq_some_iff.mp hkd).1
        refine ⟨rfl, lc_yes ⟨_, rfl, _, rfl, a, l, kd, rfl, rfl, gk.all kd (List.mem_of_getElem? hkd), B2, fun x H3 hx B3 k3 => ?_⟩⟩
        have hd3 := k3 _ _ hd (nn Da Dl)
        refine ⟨_, hd3, szlt (by rw [List.length_map]; omega), r ++ [x], by rw [upd_same, List.map_append] <;> rfl, by simp [hrl], fun c hc => ?_, B3.keep (fun o e => up e Da.symm) (fun o e => up e Dl.symm), (k2.trans k3).mut hD⟩
        rw [kcol_append]
        by_cases e : c < r.length
        · rw [if_pos e]
          exact hrv c (by omega)
        · rw [if_neg e, if_pos (by omega)]
          have : c = j := by omega
          subst this
          rw [List.getD_eq_getElem?_getD, hkd]
          exact hx
      · rintro H2 ⟨r, hd, hrl, hrv, B2, k2⟩
        rw [List.length_map] at hrl hrv
        have hf2 := k2 _ _ hf' (nn fa fl)
        have goodr : isRow ks r = true := isRow_of hrl hrv
        have kk2 : But [a, l] H H2 := k'.trans k2
        have rows2 : Paired (RowAt H2) fv rows := Paired.tl RowAt.st (B'.tup k2) hrows
        -- told again, or not
        have again : ∀ (D : Addr) (r : Row) (H2 : Hp), H D = none → D ≠ a → D ≠ l → D ≠ f → H2 D = some (.lst (r.map kV)) → isRow ks r = true → Box H2 a l → But [a, l] H H2 → H2 f = some (.lst fv) → Paired (RowAt H2) fv rows →
            ((tSeq (tIfS (tAnd (tTest (tOp (xNeE K) (tVar 3) (tLst tNil))) (tAnd (tTest (tOpC xLt (tVar 4) (.int 2))) (tTest (tOpC rEq (tOpC (rIxT K) (tVar 1) (.int 0)) (.str "number"))))) (tAsg (tCB xMax2 (tConsC (.int (-999)) (tCons (tCB xMin2 (tConsC (.int 999) (tCons (tOp xAdd (tOpC (rIxT K) (tOpC (rIxL K) (tVar 3) (.int (-1))) (.int 0)) (tOp xMul (tOp (rIxL K) (tLst (tConsC (.int 1) (tConsC (.int (-1)) tNil))) (tVar 4)) (tCall (sp_law_take K) [] E (tCons (tVar 0) (tConsC (.int 3) tNil))))) tNil))) tNil))) (gSubC (tVar 6) (.int 0) rSetL)) tNext)
              (tDrop (tBM K "list" rAppend (tVar 3) (tCons (tCB (xTuple K) (tCons (tVar 6) tNil)) tNil)))) : TS)
            { nx := fun σ H' => ∃ (rows : List Row) (x5 x6 : Option V), σ = [some (.ref a), some (.ref kt), some (.int n), some (.ref f), some (.int way), x5, x6, none] ∧ Lst RowAt H' f rows ∧ (∀ r ∈ rows, isRow ks r = true) ∧ rows.length = i + 1 ∧ Box H' a l ∧ But [a, l] H H',
              ct := fun σ H' => ∃ (rows : List Row) (x5 x6 : Option V), σ = [some (.ref a), some (.ref kt), some (.int n), some (.ref f), some (.int way), x5, x6, none] ∧ Lst RowAt H' f rows ∧ (∀ r ∈ rows, isRow ks r = true) ∧ rows.length = i + 1 ∧ Box H' a l ∧ But [a, l] H H',
              bk := (tRet (tVar 3)) { nx := fun _ H' => Q .non H', rt := Q }, rt := Q }
            [some (.ref a), some (.ref kt), some (.int n), some (.ref f), some (.int way), some (.int (0 + (i : Int))), some (.ref D), none] H2 := by
          intro D r H2 hD0 Da Dl Df hd hr B2 k2 hf2 rows2
          -- the last: f.append(tuple(row))
          have last : ∀ (r : Row) (H3 : Hp), H3 D = some (.lst (r.map kV)) → isRow ks r = true → Box H3 a l → But [a, l] H H3 → H3 f = some (.lst fv) → Paired (RowAt H3) fv rows → (tDrop (tBM K "list" rAppend (tVar 3) (tCons (tCB (xTuple K) (tCons (tVar 6) tNil)) tNil)))
              { nx := fun σ H' => ∃ (rows : List Row) (x5 x6 : Option V), σ = [some (.ref a), some (.ref kt), some (.int n), some (.ref f), some (.int way), x5, x6, none] ∧ Lst RowAt H' f rows ∧ (∀ r ∈ rows, isRow ks r = true) ∧ rows.length = i + 1 ∧ Box H' a l ∧ But [a, l] H H',
                ct := fun σ H' => ∃ (rows : List Row) (x5 x6 : Option V), σ = [some (.ref a), some (.ref kt), some (.int n), some (.ref f), some (.int way), x5, x6, none] ∧ Lst RowAt H' f rows ∧ (∀ r ∈ rows, isRow ks r = true) ∧ rows.length = i + 1 ∧ Box H' a l ∧ But [a, l] H H',
                bk := (tRet (tVar 3)) { nx := fun _ H' => Q .non H', rt := Q }, rt := Q }
              [some (.ref a), some (.ref kt), some (.int n), some (.ref f), some (.int way), some (.int (0 + (i : Int))), some (.ref D), none] H3 := by
            intro r H3 hd hr B3 k3 hf3 rows3
            refine ⟨_, rfl, .inl ⟨rfl, _, SqL.of hf3⟩, _, rfl, _, _, rfl, .inl ⟨SqL.of hd, fun t ht => ⟨_, _, _, rfl, rfl, un hf3 ht, szlt (by omega), ?_⟩⟩⟩
            have t3 : TupLe H3 (upd (upd H3 t (.tup (r.map kV))) f (.lst (fv ++ [.ref t]))) := (TupLe.new ht).list (un hf3 ht)
            refine ⟨rows ++ [r], _, _, rfl, ⟨_, upd_same, P2.app (Paired.tl RowAt.st t3 rows3) (P2.one ⟨t, rfl, ?_⟩)⟩, fun x hx => ?_, by simp [hlen], (B3.same (Rs.Same.new ht)).keep (fun o e => up e fa.symm) (fun o e => up e fl.symm), (k3.new ht).mut hf⟩
            · rw [upd_ne (ne_of_none hf3 ht).symm]
              exact upd_same
            · rcases List.mem_append.mp hx with h | h
              · exact hall x h
              · rw [List.mem_singleton.mp h]
                exact hr
          -- the test
          refine ⟨_, rfl, sz0, fun p hp => neE hf2 hp (b := !fv.isEmpty) rfl ⟨_, rfl, ?_⟩⟩
          have B2' := B2.same (Rs.Same.new (o := .lst []) hp)
          have k2' := k2.new (o := .lst []) hp
          have hf2' : upd H2 p (.lst []) f = _ := un hf2 hp
          have hd' : upd H2 p (.lst []) D = _ := un hd hp
          have rows2' := Paired.tl RowAt.st (TupLe.new (o := .lst []) hp) rows2
          cases hfe : fv with
          | nil =>
            subst hfe
            exact last r _ hd' hr B2' k2' hf2' rows2'
          | cons f0 fr =>
            rw [← hfe]
            have en : (!fv.isEmpty) = true := by rw [hfe]; rfl
            rw [en]
            refine ⟨_, rfl, _, _, rfl, rfl, _, rfl, ?_⟩
            by_cases hw : way < 2
            · rw [decide_eq_true hw]
              have hk0 : (ks.map V.str)[0]? = some (V.str (ks[0]'(by omega))) := by rw [List.getElem?_map, List.getElem?_eq_getElem (by omega)] <;> rfl
              refine ⟨_, rfl, ixT ⟨kt, rfl, kt' k2'⟩ (j := 0) rfl hk0 ⟨rfl, _, rfl, ?_⟩⟩
              by_cases hnum : ks[0]'(by omega) = "number"
              · rw [hnum]
                have ed : decide (V.str "number" = V.str "number") = true := decide_eq_true rfl
                rw [ed]
                -- the row ahead
                obtain ⟨fl0, v, efv⟩ : ∃ (l : List V) (v : V), fv = l ++ [v] := ⟨fv.dropLast, fv.getLast (by rw [hfe]; simp), (List.dropLast_concat_getLast _).symm⟩
                obtain ⟨rl0, rv, erw⟩ : ∃ (l : List Row) (v : Row), rows = l ++ [v] := by
                  have hne : rows ≠ [] := by intro e; rw [e, hfe] at flen; simp at flen
                  exact ⟨rows.dropLast, rows.getLast hne, (List.dropLast_concat_getLast _).symm⟩
                have hvr : RowAt (upd H2 p (.lst [])) v rv := by
                  rw [efv, erw] at rows2'
                  exact P2.last rows2'
                have grv : isRow ks rv = true := hall rv (by rw [erw]; simp)
                have rvl := isRow_len grv
                have v0 := isRow_val grv (i := 0) (by omega)
                have ek : ks.getD 0 "" = "number" := by rw [List.getD_eq_getElem?_getD, List.getElem?_eq_getElem (by omega)]; exact hnum
                rw [ek] at v0
                obtain ⟨z, ez⟩ : ∃ z : Int, kcol rv 0 = .inl z := by
                  cases e : kcol rv 0 with
                  | inl z => exact ⟨z, rfl⟩
                  | inr s =>
                    rw [e] at v0
                    exact absurd v0 (by simp [isValue]; intro h; exact absurd h (by decide +kernel))
                have hf2'' : upd H2 p (.lst []) f = some (.lst (fl0 ++ [v])) := by rw [hf2', efv]
                refine ⟨_, rfl, ixLast hf2'' (ixT hvr (j := 0) rfl (by rw [List.getElem?_map, kcol_get (by omega), ez]; rfl) ?_)⟩
                refine ⟨szle (by show 2 ≤ 100000; decide), fun q hq => ⟨_, rfl, ?_⟩⟩
                have hix : ∃ s : Int, ([V.int 1, V.int (-1)] : List V)[way.toNat]? = some (.int s) ∧ (s = 1 ∨ s = -1) := by
                  rcases pick2 w0 hw with rfl | rfl
                  · exact ⟨1, rfl, .inl rfl⟩
                  · exact ⟨-1, rfl, .inr rfl⟩
                obtain ⟨s, hs, hs1⟩ := hix
                refine ixL upd_same (j := way.toNat) (by omega) hs ?_
                refine ⟨_, rfl, a, l, _, rfl, rfl, by decide, by decide, B2'.same (Rs.Same.new hq), fun g H3 g0 g1 B3 k3 => ?_⟩
                refine ⟨s, g, rfl, rfl, .inl ⟨by omega, by omega⟩, _, _, rfl, rfl, _, _, rfl, _, _, rfl, ?_⟩
                have hd3 := k3 _ _ (un hd' hq) (nn Da Dl)
                have hf3 := k3 _ _ (un hf2' hq) (nn fa fl)
                have rl := isRow_len hr
                refine ⟨_, rfl, _, _, _, 0, rfl, rfl, hd3, ixN_zero' (by rw [List.length_map]; omega), ?_⟩
                obtain ⟨zz, ezz, z1, z2⟩ : ∃ zz : Int, (if (if z + s * g < 999 then z + s * g else 999) > -999 then (if z + s * g < 999 then z + s * g else 999) else -999) = zz ∧ -999 ≤ zz ∧ zz ≤ 999 := by
                  refine ⟨_, rfl, ?_, ?_⟩ <;> split <;> (try split) <;> omega
                rw [ezz]
                have t3 : TupLe (upd H2 p (.lst [])) (upd H3 D (.lst ((r.map kV).set 0 (.int zz)))) := ((TupLe.new (o := .lst [.int 1, .int (-1)]) hq).trans ((B2'.same (Rs.Same.new hq)).tup k3)).list hd3
                refine last (r.set 0 (.inl zz)) _ (by rw [upd_same, List.map_set] <;> rfl) (isRow_of (by rw [List.length_set]; exact rl) fun c hc => ?_) (B3.keep (fun o e => up e Da.symm) (fun o e => up e Dl.symm)) ((k2'.trans ((But.same (Rs.Same.new hq)).trans k3)).mut hD0) (up hf3 Df.symm) (Paired.tl RowAt.st t3 rows2')
                rw [kcol_set (by omega)]
                by_cases ec : c = 0
                · subst ec
                  rw [if_pos rfl, ek]
                  simp [isValue, z1, z2]
                  decide +kernel
                · rw [if_neg ec]
                  exact isRow_val hr hc
              · have ed : decide (V.str (ks[0]'(by omega)) = V.str "number") = false := decide_eq_false fun e => hnum (by injection e)
                rw [ed]
                exact last r _ hd' hr B2' k2' hf2' rows2'
            · rw [decide_eq_false hw]
              exact last r _ hd' hr B2' k2' hf2' rows2'
        refine ⟨_, rfl, sz0, fun p hp => neE hf2 hp (b := !fv.isEmpty) rfl ⟨_, rfl, ?_⟩⟩
        have B2' := B2.same (Rs.Same.new (o := .lst []) hp)
        have k2' := kk2.new (o := .lst []) hp
        have hf2' : upd H2 p (.lst []) f = _ := un hf2 hp
        have hd' : upd H2 p (.lst []) D = _ := un hd hp
        have rows2' := Paired.tl RowAt.st (TupLe.new (o := .lst []) hp) rows2
        cases hfe : fv with
        | nil =>
          subst hfe
          exact again D r _ hD0 Da Dl Df hd' goodr B2' k2' hf2' rows2'
        | cons f0 fr =>
          rw [← hfe]
          have en : (!fv.isEmpty) = true := by rw [hfe]; rfl
          rw [en]
          refine ⟨_, rfl, a, l, _, rfl, rfl, by decide, by decide, B2', fun g H3 g0 g1 B3 k3 => ⟨rfl, _, rfl, ?_⟩⟩
          have hf3 := k3 _ _ hf2' (nn fa fl)
          have hd3 := k3 _ _ hd' (nn Da Dl)
          have rows3 := Paired.tl RowAt.st (B2'.tup k3) rows2'
          have fpos : 0 < fv.length := by rw [hfe]; simp
          by_cases hg : V.int g = .int 0
          · rw [decide_eq_true hg]
            refine ⟨_, rfl, _, rfl, _, rfl, _, _, rfl, .inl (SqL.of hf3), a, l, _, rfl, rfl, by omega, by omega, B3, fun g2 H4 g20 g21 B4 k4 => ?_⟩
            obtain ⟨j, rfl⟩ : ∃ j : Nat, g2 = (j : Int) := ⟨g2.toNat, by omega⟩
            have hf4 := k4 _ _ hf3 (nn fa fl)
            have rows4 := Paired.tl RowAt.st (B3.tup k4) rows3
            have hj : j < fv.length := by omega
            obtain ⟨rw_, hrw, ⟨tw, ew, htw⟩⟩ := P2.get rows4 (List.getElem?_eq_getElem hj)
            refine ixL hf4 (j := j) rfl (List.getElem?_eq_getElem hj) ?_
            rw [ew]
            refine ⟨_, _, rfl, .inr (SqT.of htw), fun d hd4 => ?_⟩
            have k04 : But [a, l] H H4 := k2'.trans (k3.trans k4)
            obtain ⟨_, _, ha4, hl4, _⟩ := B4.ex
            have da := (ne_of_none ha4 hd4).symm
            have dl := (ne_of_none hl4 hd4).symm
            exact again d rw_ _ (none_of_but k04 hd4 (nn da dl)) da dl (ne_of_none hf4 hd4).symm upd_same (hall _ (List.mem_of_getElem? hrw)) (B4.same (Rs.Same.new hd4)) (k04.new hd4) (un hf4 hd4) (Paired.tl RowAt.st (TupLe.new hd4) rows4)
          · rw [decide_eq_false hg]
            exact again D r _ hD0 Da Dl Df hd3 goodr B3 (k2'.trans k3) hf3 rows3
    · rintro σ H' ⟨rows, x5, x6, rfl, hf', hall, hlen, B', k'⟩
      exact ⟨_, rfl, k f rows H' hf hf' hall (by omega) B' k'⟩
end Rs

namespace Rs
open PySem PySem.Spec PyProof.Rows L2
abbrev N_need_kinds : List Str := ["kinds", "kind"]
abbrev P_need_kinds : List Str := ["kinds"]
def sp_need_kinds (K : PySem.W.Frag) : Sp := fun vs H Q E => match vs with
  | [kv] => ∃ ks, KindsAt H kv ks ∧ GoodKinds ks ∧ ∀ H', Same H H' → Q .non H'
  | _ => False
def t_need_kinds (K : PySem.W.Frag) (E : XK) : TS := (tIfS (tOr (tNot (tTest (tChain xLe xLe (tC (.int 1)) (tCB1 (xLen K) (tVar 0)) (tC (.int 4))))) (tTest (tOp (xNeE K) (tLc (iTup K (tVar 0)) (gName 1) (tTest (tOp (rIn K true) (tVar 1) (tTup (tConsC (.str "number") (tConsC (.str "word") tNil))))) (tVar 1) [1]) (tLst tNil)))) tNever tNext)
theorem in_two {x s t : Str} : inV (.str x) [.str s, .str t] = (decide (s = x) || decide (t = x)) := by
  unfold inV
  show (eqV (.str s) (.str x) || (eqV (.str t) (.str x) || false)) = _
  rw [Bool.or_false]
  have e : ∀ a b : Str, eqV (.str a) (.str b) = decide (a = b) := fun a b => rfl
  rw [e, e]
theorem pure_need_kinds {K : PySem.W.Frag} : ∀ vs H Q E, sp_need_kinds K vs H Q E → t_need_kinds K E { nx := fun _ H' => Q .non H', rt := Q } (start N_need_kinds vs) H := by
  intro vs H Q E h
  match vs, h with
  | [kv], h =>
    obtain ⟨ks, ⟨kt, rfl, hkt⟩, gk, k⟩ := h
    have g1 := gk.pos
    have g4 := gk.le
    refine ⟨_, rfl, _, _, rfl, .inr (SqT.of hkt), _, _, rfl, rfl, _, rfl, ?_⟩
    rw [List.length_map, decide_eq_true (show (1 : Int) ≤ (ks.length : Int) by omega)]
    refine ⟨_, _, rfl, rfl, _, rfl, ?_⟩
    rw [decide_eq_true (show (ks.length : Int) ≤ 4 by omega)]
    refine ⟨_, rfl, kt, rfl, ⟨_, SqT.of hkt⟩, fun D hD => ?_⟩
    refine lc_tup (K := K) (a := kt) (xs := ks.map V.str) (fun j H2 => H2 D = some (.lst []) ∧ Same H H2) ⟨upd_same, Rs.Same.new hD⟩ ?_ ?_ ?_
    · rintro j H2 _ ⟨_, s⟩
      exact SqT.of (s _ _ hkt)
    · rintro j v H2 hj ⟨hd, s⟩
      rw [List.getElem?_map] at hj
      obtain ⟨kd, hkd, rfl⟩ := Option.map_eq_some_iff.mp hj
      refine ⟨rfl, _, rfl, szle (by show 2 ≤ 100000; decide), fun p hp => ⟨p, _, rfl, .inr (SqT.of upd_same), rfl, rfl, _, rfl, ?_⟩⟩
      have e : inV (.str kd) [.str "number", .str "word"] = true := by
        rw [in_two]
        rcases gk.all kd (List.mem_of_getElem? hkd) with rfl | rfl
        · rw [decide_eq_true rfl]; rfl
        · rw [decide_eq_true (p := ("word" : Str) = "word") rfl, Bool.or_true]
      rw [e]
      exact ⟨un hd hp, s.trans (Rs.Same.new hp)⟩
    · rintro H2 ⟨hd, s⟩
      refine ⟨sz0, fun p hp => neE hd hp (b := false) rfl ⟨_, rfl, ?_⟩⟩
      exact k _ (s.trans (Rs.Same.new hp))
abbrev N_is_turn : List Str := ["kinds", "turn"]
abbrev P_is_turn : List Str := ["kinds", "turn"]
def sp_is_turn (K : PySem.W.Frag) : Sp := fun vs H Q E => match vs with
  | [kv, tv] => ∃ (ks : List Str) (t : Nat × Bool), KindsAt H kv ks ∧ TurnAt H tv t ∧ t.1 < ks.length ∧ ∀ H', Same H H' → Q (.bl true) H'
  | _ => False
def t_is_turn (K : PySem.W.Frag) (E : XK) : TS := (tRet (tAndV (tOpC rEq (tCB1 (xLen K) (tVar 1)) (.int 2)) (tAndV (tChain xLe xLt (tC (.int 0)) (tOpC (rIxT K) (tVar 1) (.int 0)) (tCB1 (xLen K) (tVar 0))) (tOp (rIn K false) (tOpC (rIxT K) (tVar 1) (.int 1)) (tTup (tConsC (.str "up") (tConsC (.str "down") tNil)))))))
theorem pure_is_turn {K : PySem.W.Frag} : ∀ vs H Q E, sp_is_turn K vs H Q E → t_is_turn K E { nx := fun _ H' => Q .non H', rt := Q } (start N_is_turn vs) H := by
  intro vs H Q E h
  match vs, h with
  | [kv, tv], h =>
    obtain ⟨ks, t, ⟨kt, rfl, hkt⟩, ⟨ta, rfl, hta⟩, hlt, k⟩ := h
    refine ⟨_, rfl, _, _, rfl, .inr (SqT.of hta), rfl, _, rfl, ?_⟩
    have e1 : decide (V.int ((([V.int (t.1 : Int), V.str (wayS t.2)] : List V).length : Nat) : Int) = V.int 2) = true := decide_eq_true rfl
    rw [e1]
    refine ⟨_, rfl, ixT ⟨ta, rfl, hta⟩ (j := 0) rfl rfl ⟨_, _, rfl, rfl, _, rfl, ?_⟩⟩
    rw [decide_eq_true (show (0 : Int) ≤ (t.1 : Int) by omega)]
    refine ⟨_, rfl, _, _, rfl, .inr (SqT.of hkt), _, _, rfl, rfl, _, rfl, ?_⟩
    rw [List.length_map, decide_eq_true (show (t.1 : Int) < (ks.length : Int) by omega)]
    refine ⟨_, rfl, ixT ⟨ta, rfl, hta⟩ (j := 1) rfl rfl ⟨szle (by show 2 ≤ 100000; decide), fun p hp => ⟨p, _, rfl, .inr (SqT.of upd_same), rfl, rfl, ?_⟩⟩⟩
    have e : inV (.str (wayS t.2)) [.str "up", .str "down"] = true := by
      rw [in_two]
      cases t.2
      · rw [decide_eq_true (p := ("down" : Str) = wayS false) rfl, Bool.or_true]
      · rw [decide_eq_true (p := ("up" : Str) = wayS true) rfl]; rfl
    show Q (.bl (inV (.str (wayS t.2)) [.str "up", .str "down"])) _
    rw [e]
    exact k _ (Rs.Same.new hp)
abbrev N_need_order : List Str := ["kinds", "order", "good", "turn"]
abbrev P_need_order : List Str := ["kinds", "order"]
def sp_need_order (K : PySem.W.Frag) : Sp := fun vs H Q E => match vs with
  | [kv, ov] => ∃ ks o, KindsAt H kv ks ∧ LstV TurnAt H ov o ∧ GoodOrd ks o ∧ o.length ≤ 1000 ∧ ∀ H', Same H H' → Q .non H'
  | _ => False
def t_need_order (K : PySem.W.Frag) (E : XK) : TS := (tSeq (tAsg (tLc (iList K (tVar 1)) (gName 3) (tB (tCall (sp_is_turn K) [] E0 (tCons (tVar 0) (tCons (tVar 3) tNil)))) (tVar 3) [3]) (gName 2))
  (tIfS (tOr (tTest (tOpC rEq (tCB1 (xLen K) (tVar 2)) (.int 0))) (tOr (tTest (tOp rNe (tCB1 (xLen K) (tVar 2)) (tCB1 (xLen K) (tVar 1)))) (tTest (tOp rNe (tLenSetX K (tLc (iList K (tVar 2)) (gName 3) tYes (tOpC (rIxT K) (tVar 3) (.int 0)) [3])) (tCB1 (xLen K) (tVar 2)))))) tNever tNext))
theorem nodup_cast : ∀ {l : List Nat}, l.Nodup → (l.map fun (n : Nat) => (n : Int)).Nodup
  | [], _ => by simp
  | a :: l, h => by
    rw [List.map_cons, List.nodup_cons]
    obtain ⟨h1, h2⟩ := List.nodup_cons.mp h
    refine ⟨fun hm => ?_, nodup_cast h2⟩
    obtain ⟨b, hb, e⟩ := List.mem_map.mp hm
    exact h1 (by have : b = a := by omega
                 rw [← this]; exact hb)
theorem pure_need_order {K : PySem.W.Frag} : ∀ vs H Q E, sp_need_order K vs H Q E → t_need_order K E { nx := fun _ H' => Q .non H', rt := Q } (start N_need_order vs) H := by
  intro vs H Q E h
  match vs, h with
  | [kv, ov], h =>
    obtain ⟨ks, o, hk, ⟨lo, rfl, ov, hlo, hts⟩, go, hlen, k⟩ := h
    have hl := hts.length
    refine ⟨_, rfl, lo, rfl, ⟨_, SqL.of hlo⟩, fun D hD => ?_⟩
    refine lc_list (K := K) (a := lo) (xs := ov) (fun j H2 => H2 D = some (.lst (ov.take j)) ∧ Same H H2) ⟨upd_same, Rs.Same.new hD⟩ ?_ ?_ ?_
    · rintro j H2 _ ⟨_, s⟩
      exact SqL.of (s _ _ hlo)
    · rintro j v H2 hj ⟨hd, s⟩
      obtain ⟨t, ht, hta⟩ := P2.get hts hj
      have st := TupLe.same s
      refine ⟨rfl, _, rfl, _, rfl, ks, t, hk.mono st, hta.mono st, go.col t (List.mem_of_getElem? ht), fun H3 s3 => ⟨_, rfl, ?_⟩⟩
      refine ⟨_, rfl, _, s3 _ _ hd, szlt (by rw [List.length_take]; omega), ?_, Rs.Same.mut (s.trans s3) hD⟩
      rw [upd_same, List.take_succ, hj] <;> rfl
    · rintro H2 ⟨hd, s⟩
      rw [List.take_of_length_le (Nat.le_refl _)] at hd
      have hpos : 0 < ov.length := by
        rw [hl]
        cases o with
        | nil => exact absurd rfl go.ne
        | cons t o => simp
      refine ⟨_, rfl, _, _, rfl, .inl (SqL.of hd), rfl, _, rfl, ?_⟩
      have e0 : decide (V.int (ov.length : Int) = V.int 0) = false := decide_eq_false fun e => by injection e with e; omega
      rw [e0]
      refine ⟨_, rfl, _, _, rfl, .inl (SqL.of hd), _, rfl, _, _, rfl, .inl (SqL.of (s _ _ hlo)), rfl, _, rfl, ?_⟩
      have e1 : (!decide (V.int (ov.length : Int) = V.int (ov.length : Int))) = false := by simp
      rw [e1]
      refine ⟨_, rfl, D, rfl, ⟨_, SqL.of hd⟩, fun D2 hD2 => ?_⟩
      refine lc_list (K := K) (a := D) (xs := ov) (fun j H3 => H3 D2 = some (.lst (((o.map (·.1)).take j).map fun (n : Nat) => V.int (n : Int))) ∧ Same H2 H3) ⟨by rw [upd_same] <;> rfl, Rs.Same.new hD2⟩ ?_ ?_ ?_
      · rintro j H3 _ ⟨_, s3⟩
        exact SqL.of (s3 _ _ hd)
      · rintro j v H3 hj ⟨hd2, s3⟩
        obtain ⟨t, ht, hta⟩ := P2.get hts hj
        have st := TupLe.same (s.trans s3)
        refine ⟨rfl, lc_yes ⟨_, rfl, ixT (hta.mono st) (j := 0) rfl rfl ?_⟩⟩
        refine ⟨_, hd2, szlt (by rw [List.length_map, List.length_take, List.length_map]; omega), ?_, Rs.Same.mut s3 hD2⟩
        rw [upd_same, List.take_succ, List.getElem?_map, ht, List.map_append] <;> rfl
      · rintro H3 ⟨hd2, s3⟩
        rw [List.take_of_length_le (by rw [List.length_map]; omega)] at hd2
        have em : (o.map (·.1)).map (fun (n : Nat) => V.int (n : Int)) = ((o.map (·.1)).map fun (n : Nat) => (n : Int)).map V.int := by rw [List.map_map (f := fun (n : Nat) => (n : Int))] <;> rfl
        rw [em] at hd2
        refine ⟨D2, _, rfl, SqL.of hd2, by rw [List.length_map, List.length_map]; omega, _, rfl, _, _, rfl, .inl (SqL.of (s3 _ _ hd)), rfl, _, rfl, ?_⟩
        have e2 : (!decide (V.int ((dcount ((o.map (·.1)).map fun (n : Nat) => (n : Int)) : Nat) : Int) = V.int (ov.length : Int))) = false := by
          rw [dcount_nodup (nodup_cast go.nd), List.length_map, List.length_map, hl]
          simp
        rw [e2]
        exact k _ (s.trans s3)
abbrev N_is_value : List Str := ["kind", "value", "sign"]
abbrev P_is_value : List Str := ["kind", "value"]
def sp_is_value (K : PySem.W.Frag) : Sp := fun vs H Q E => match vs with
  | [kv, xv] => ∃ (kd : Str) (x : Key), kv = .str kd ∧ xv = kV x ∧ (∀ s, x = .inr s → s.length ≤ 1000) ∧ ∀ H', Same H H' → Q (.bl (isValue kd x)) H'
  | _ => False
def t_is_value (K : PySem.W.Frag) (E : XK) : TS := (tSeq (tIfS (tTest (tOpC rEq (tVar 0) (.str "word"))) 
    (tSeq (tIfS (tOr (tNot (tB (tIsi K "str" (tVar 1)))) (tTest (tOpC xGt (tCB1 xLenS (tVar 1)) (.int 6)))) (tRet (tC (.bl false))) tNext)
    (tRet (tOp (xEqE K) (tLc (iStr (tVar 1)) (gName 2) (tTest (tOpC rNotInS (tVar 2) (.str "abcdefghijklmnopqrstuvwxyz"))) (tVar 2) [2]) (tLst tNil)))) tNext)
  (tRet (tAndV (tIsi K "int" (tVar 1)) (tAndV (tNotV (tIsi K "bool" (tVar 1))) (tChain xLe xLe (tOpC xSub (tC (.int 0)) (.int 999)) (tVar 1) (tC (.int 999)))))))
theorem filter_nil_all {α : Type} (p : α → Bool) : ∀ l : List α, (l.filter fun x => !p x).isEmpty = l.all p
  | [] => rfl
  | a :: l => by
    rw [List.filter_cons, List.all_cons]
    cases p a
    · rfl
    · simpa using filter_nil_all p l
theorem pure_is_value {K : PySem.W.Frag} : ∀ vs H Q E, sp_is_value K vs H Q E → t_is_value K E { nx := fun _ H' => Q .non H', rt := Q } (start N_is_value vs) H := by
  intro vs H Q E h
  match vs, h with
  | [kv, xv], h =>
    obtain ⟨kd, x, rfl, rfl, hsz, k⟩ := h
    refine ⟨_, rfl, rfl, _, rfl, ?_⟩
    by_cases hw : V.str kd = V.str "word"
    · rw [decide_eq_true hw]
      have ekd : kd = "word" := by injection hw
      cases x with
      | inl i =>
        refine ⟨_, rfl, isi_go (t := "int") (b := false) (.base (.int i)) (by decide +kernel) ⟨_, rfl, ?_⟩⟩
        have e : isValue kd (.inl i) = false := by simp [isValue, ekd]
        rw [e] at k
        exact k _ (Same.refl H)
      | inr s =>
        refine ⟨_, rfl, isi_go (t := "str") (b := true) (.base (.str s)) (by decide +kernel) ⟨_, rfl, ?_⟩⟩
        refine ⟨_, rfl, s, rfl, szle (by have := hsz s rfl; omega), _, _, rfl, rfl, _, rfl, ?_⟩
        by_cases hl : (6 : Int) < (s.length : Int)
        · rw [decide_eq_true hl]
          have e : isValue kd (.inr s) = false := by simp [isValue]; intro _ h6; omega
          rw [e] at k
          exact k _ (Same.refl H)
        · rw [decide_eq_false hl]
          refine ⟨_, rfl, s, rfl, fun D hD => ?_⟩
          refine lc_it (walk_str (z := s)) (fun j H2 => H2 D = some (.lst (((s.cps.toList.take j).filter fun c => !decide (c ∈ letters)).map fun c => V.str ⟨#[c]⟩)) ∧ Same H H2) ⟨upd_same, Rs.Same.new hD⟩ (fun _ _ _ _ => trivial) ?_ ?_
          · rintro j x H1 H2 hj ⟨hd, s1⟩ ⟨rfl, c, hc, rfl⟩
            have hc' : s.cps.toList[j]? = some c := by simpa using hc
            have hlen : s.cps.size ≤ 6 := by have : s.length = s.cps.size := rfl; omega
            refine ⟨rfl, _, rfl, c, _, rfl, rfl, _, rfl, ?_⟩
            have el : ("abcdefghijklmnopqrstuvwxyz" : Str).cps.toList = letters := rfl
            rw [el]
            by_cases hm : c ∈ letters
            · rw [decide_eq_true hm]
              refine ⟨?_, s1⟩
              rw [hd, List.take_succ, hc', List.filter_append]
              simp [hm]
            · rw [decide_eq_false hm]
              refine ⟨_, rfl, _, hd, szlt (by rw [List.length_map]; have := List.length_filter_le (fun c => !decide (c ∈ letters)) (s.cps.toList.take j); rw [List.length_take] at this; omega), ?_, Rs.Same.mut s1 hD⟩
              rw [upd_same, List.take_succ, hc', List.filter_append]
              simp [hm]
          · rintro H2 ⟨hd, s1⟩
            rw [List.take_of_length_le (by simp)] at hd
            refine ⟨sz0, fun p hp => ?_⟩
            refine eqE hd hp (b := isValue kd (.inr s)) ?_ (k _ (s1.trans (Rs.Same.new hp)))
            have h6 : s.length ≤ 6 := by omega
            simp only [isValue, ekd, h6, decide_true, Bool.true_and]
            rw [List.isEmpty_map, filter_nil_all]
    · rw [decide_eq_false hw]
      have ekd : kd ≠ "word" := fun e => hw (by rw [e])
      cases x with
      | inl i =>
        refine ⟨_, rfl, isi_go (t := "int") (b := true) (.base (.int i)) (by decide +kernel) ⟨_, rfl, ?_⟩⟩
        refine ⟨_, rfl, isi_go (t := "int") (b := false) (.base (.int i)) (by decide +kernel) ⟨_, rfl, _, rfl, ?_⟩⟩
        refine ⟨_, _, rfl, rfl, _, rfl, _, _, rfl, rfl, _, rfl, ?_⟩
        have hk : isValue kd (.inl i) = (decide ((0 : Int) - 999 ≤ i) && decide (i ≤ 999)) := by
          simp only [isValue, ne_eq, ekd, not_false_eq_true, decide_true, Bool.true_and]
          rfl
        rw [hk] at k
        by_cases h1 : (0 : Int) - 999 ≤ i
        · rw [decide_eq_true h1] at k ⊢
          refine ⟨_, _, rfl, rfl, k _ (Same.refl H)⟩
        · rw [decide_eq_false h1] at k ⊢
          exact k _ (Same.refl H)
      | inr s =>
        refine ⟨_, rfl, isi_go (t := "str") (b := false) (.base (.str s)) (by decide +kernel) ⟨_, rfl, ?_⟩⟩
        have e : isValue kd (.inr s) = false := by simp [isValue, ekd]
        rw [e] at k
        exact k _ (Same.refl H)
abbrev N_is_row : List Str := ["kinds", "row", "k"]
abbrev P_is_row : List Str := ["kinds", "row"]
/-- texts that aren't too long to be told -/
def RowSz (r : Row) : Prop := r.length ≤ 1000 ∧ ∀ s, Sum.inr s ∈ r → s.length ≤ 1000
theorem RowSz.of {ks : List Str} {r : Row} (h : isRow ks r = true) (hk : ks.length ≤ 4) : RowSz r := by
  refine ⟨by rw [isRow_len h]; omega, fun s hs => ?_⟩
  obtain ⟨i, hi, e⟩ := List.mem_iff_getElem.mp hs
  have v := isRow_val h (i := i) (by rw [← isRow_len h]; exact hi)
  have ek : kcol r i = .inr s := by
    unfold kcol
    rw [List.getD_eq_getElem?_getD, List.getElem?_eq_getElem hi, e]
    rfl
  rw [ek] at v
  simp only [isValue, Bool.and_eq_true, decide_eq_true_eq] at v
  omega
def sp_is_row (K : PySem.W.Frag) : Sp := fun vs H Q E => match vs with
  | [kv, rv] => ∃ (ks : List Str) (r : Row), KindsAt H kv ks ∧ RowAt H rv r ∧ RowSz r ∧ ks.length ≤ 1000 ∧ ∀ H', Same H H' → Q (.bl (isRow ks r)) H'
  | _ => False
def t_is_row (K : PySem.W.Frag) (E : XK) : TS := (tSeq (tIfS (tTest (tOp rNe (tCB1 (xLen K) (tVar 1)) (tCB1 (xLen K) (tVar 0)))) (tRet (tC (.bl false))) tNext)
  (tRet (tOp (xEqE K) (tLc (iRng1 (tCons (tCB1 (xLen K) (tVar 0)) tNil)) (gName 2) (tNot (tB (tCall (sp_is_value K) [] E0 (tCons (tOp (rIxT K) (tVar 0) (tVar 2)) (tCons (tOp (rIxT K) (tVar 1) (tVar 2)) tNil))))) (tVar 2) [2]) (tLst tNil))))
theorem pure_is_row {K : PySem.W.Frag} : ∀ vs H Q E, sp_is_row K vs H Q E → t_is_row K E { nx := fun _ H' => Q .non H', rt := Q } (start N_is_row vs) H := by
  intro vs H Q E h
  match vs, h with
  | [kv, rv], h =>
    obtain ⟨ks, r, ⟨kt, rfl, hkt⟩, ⟨rt, rfl, hrt⟩, hsz, hkl, k⟩ := h
    refine ⟨_, rfl, _, _, rfl, .inr (SqT.of hrt), _, rfl, _, _, rfl, .inr (SqT.of hkt), rfl, _, rfl, ?_⟩
    by_cases hl : r.length = ks.length
    · have e1 : (!decide (V.int (((r.map kV).length : Nat) : Int) = V.int (((ks.map V.str).length : Nat) : Int))) = false := by
        rw [List.length_map, List.length_map, hl]; simp
      rw [e1]
      refine ⟨_, rfl, _, _, rfl, .inr (SqT.of hkt), _, rfl, by omega, by rw [List.length_map]; omega, fun D hD => ?_⟩
      refine lc_range (lo := 0) (n := (((ks.map V.str).length : Nat) : Int).toNat) (fun j H2 => H2 D = some (.lst (((List.range j).filter fun i => !isValue (ks.getD i "") (kcol r i)).map fun (i : Nat) => V.int (i : Int))) ∧ Same H H2) ⟨upd_same, Rs.Same.new hD⟩ ?_ ?_
      · rintro j H2 hj ⟨hd, s⟩
        rw [List.length_map] at hj
        have hjk : j < ks.length := by omega
        have z : (0 + (j : Int)) = (j : Int) := by omega
        refine ⟨rfl, _, rfl, _, rfl, _, _, _, _, rfl, rfl, SqT.of (s _ _ hkt), at_of (j := j) z (by rw [List.getElem?_map, List.getElem?_eq_getElem hjk]; rfl), _, rfl, _, rfl, _, _, _, _, rfl, rfl, SqT.of (s _ _ hrt), at_of (j := j) z (by rw [List.getElem?_map, kcol_get (by omega)]; rfl), _, _, rfl, rfl, fun st hst => ?_, fun H3 s3 => ⟨_, rfl, ?_⟩⟩
        · refine hsz.2 st ?_
          rw [← hst]
          exact List.mem_of_getElem? (kcol_get (by omega))
        have eg : ks[j] = ks.getD j "" := by rw [List.getD_eq_getElem?_getD, List.getElem?_eq_getElem hjk]; rfl
        rw [eg]
        have hd3 := s3 _ _ hd
        have lf : ((List.range j).filter fun i => !isValue (ks.getD i "") (kcol r i)).length ≤ j := by
          have := List.length_filter_le (fun i => !isValue (ks.getD i "") (kcol r i)) (List.range j)
          rw [List.length_range] at this
          exact this
        cases hv : isValue (ks.getD j "") (kcol r j) with
        | true =>
          refine ⟨?_, s.trans s3⟩
          have ef : ([j].filter fun i => !isValue (ks.getD i "") (kcol r i)) = [] := by rw [List.filter_cons, hv] <;> rfl
          rw [hd3, List.range_succ, List.filter_append, ef, List.append_nil]
        | false =>
          refine ⟨_, rfl, _, hd3, szlt (by rw [List.length_map]; omega), ?_, Rs.Same.mut (s.trans s3) hD⟩
          have ef : ([j].filter fun i => !isValue (ks.getD i "") (kcol r i)) = [j] := by rw [List.filter_cons, hv] <;> rfl
          rw [upd_same, List.range_succ, List.filter_append, z, ef, List.map_append] <;> rfl
      · rintro H2 ⟨hd, s⟩
        have en : (((ks.map V.str).length : Nat) : Int).toNat = ks.length := by rw [List.length_map]; omega
        rw [en] at hd
        refine ⟨sz0, fun p hp => eqE hd hp (b := isRow ks r) ?_ (k _ (s.trans (Rs.Same.new hp)))⟩
        rw [List.isEmpty_map, filter_nil_all]
        unfold isRow
        rw [decide_eq_true hl, Bool.true_and]
    · have e1 : (!decide (V.int (((r.map kV).length : Nat) : Int) = V.int (((ks.map V.str).length : Nat) : Int))) = true := by
        rw [List.length_map, List.length_map]
        rw [decide_eq_false fun e => hl (by injection e with e; omega)]
        rfl
      rw [e1]
      have e : isRow ks r = false := by unfold isRow; rw [decide_eq_false hl]; rfl
      rw [e] at k
      exact k _ (Same.refl H)
abbrev N_numbered : List Str := ["rows", "number", "row"]
abbrev P_numbered : List Str := ["rows"]
def sp_numbered (K : PySem.W.Frag) : Sp := sp_law_pairs K
def t_numbered (K : PySem.W.Frag) (E : XK) : TS := (tRet (tLc (iEnum K (tCons (tVar 0) tNil)) (gTup K 2 (gCons (gName 1) (gCons (gName 2) gNil))) tYes (tTup (tCons (tVar 1) (tCons (tVar 2) tNil))) [1, 2]))
theorem pure_numbered {K : PySem.W.Frag} : ∀ vs H Q E, sp_numbered K vs H Q E → t_numbered K E { nx := fun _ H' => Q .non H', rt := Q } (start N_numbered vs) H := by
  intro vs H Q E h
  unfold sp_numbered at h
  match vs, h with
  | [v], h =>
    obtain ⟨rows, ⟨lr, rfl, rv, hr, hrows⟩, hlen, k⟩ := h
    have hl := hrows.length
    refine ⟨_, rfl, _, _, rfl, SqL.of hr, fun D hD => ?_⟩
    refine lc_it (walk_enum (K := K) (a := lr) (xs := rv)) (fun i H' => ∃ vs, H' D = some (.lst vs) ∧ Paired (PairAt H') vs ((List.range i).map fun (i : Nat) => ((i : Int), rows.getD i [])) ∧ Same H H') ⟨[], upd_same, .nil, Rs.Same.new hD⟩ ?_ ?_ ?_
    · rintro i H' _ ⟨_, _, _, s⟩
      exact SqL.of (s _ _ hr)
    · rintro i x H' H2 hi ⟨vs, hd, hp, s⟩ ⟨T, x1, w, rfl, hT, rfl, hx1, hw⟩
      cases hx1
      have hi' : i < rows.length := by omega
      obtain ⟨r, hr', hra⟩ := P2.get hrows hw
      have hdT := un (u := .tup [.int (i : Nat), w]) hd hT
      refine ⟨T, _, rfl, SqT.of upd_same, rfl, _, _, rfl, _, _, rfl, rfl, rfl, lc_yes ⟨_, rfl, _, rfl, szle (by show 2 ≤ 100000; decide), fun t ht => ?_⟩⟩
      have hdt := un (u := .tup [.int (i : Nat), w]) hdT ht
      refine ⟨_, hdt, szlt (by have := hp.length; simp at this; omega), vs ++ [.ref t], upd_same, ?_, Rs.Same.mut ((s.trans (Rs.Same.new hT)).trans (Rs.Same.new ht)) hD⟩
      have tt : TupLe H' (upd (upd (upd H' T (.tup [.int (i : Nat), w])) t (.tup [.int (i : Nat), w])) D (.lst (vs ++ [.ref t]))) := ((TupLe.new hT).trans (TupLe.new ht)).list hdt
      have th : TupLe H (upd (upd (upd H' T (.tup [.int (i : Nat), w])) t (.tup [.int (i : Nat), w])) D (.lst (vs ++ [.ref t]))) := (TupLe.same s).trans tt
      rw [prs_take hr']
      refine P2.app (Paired.tl PairAt.st tt hp) (P2.one ⟨w, ⟨t, rfl, ?_⟩, RowAt.st _ _ _ _ th hra⟩)
      rw [upd_ne (ne_of_none hdT ht).symm, upd_same]
    · rintro H' ⟨vs, hd, hp, s⟩
      refine k D H' hD ⟨vs, hd, ?_⟩ s
      rw [hl] at hp
      exact hp
abbrev N_need_rows : List Str := ["kinds", "rows", "most", "place", "row"]
abbrev P_need_rows : List Str := ["kinds", "rows", "most"]
def sp_need_rows (K : PySem.W.Frag) : Sp := fun vs H Q E => match vs with
  | [kv, rv, m] => ∃ (ks : List Str) (rows : List Row) (most : Int), KindsAt H kv ks ∧ LstV RowAt H rv rows ∧ m = .int most ∧ ks.length ≤ 4 ∧ (∀ r ∈ rows, isRow ks r = true) ∧ (rows.length : Int) ≤ most ∧ ∀ H', Same H H' → Q .non H'
  | _ => False
def t_need_rows (K : PySem.W.Frag) (E : XK) : TS := (tFor (iEnum K (tCons (tVar 1) tNil)) (gTup K 2 (gCons (gName 3) (gCons (gName 4) gNil))) 
    (tIfS (tOr (tTest (tOp xGe (tVar 3) (tVar 2))) (tNot (tB (tCall (sp_is_row K) [] E (tCons (tVar 0) (tCons (tVar 4) tNil)))))) tNever tNext))
theorem pure_need_rows {K : PySem.W.Frag} : ∀ vs H Q E, sp_need_rows K vs H Q E → t_need_rows K E { nx := fun _ H' => Q .non H', rt := Q } (start N_need_rows vs) H := by
  intro vs H Q E h
  match vs, h with
  | [kv, rv, m], h =>
    obtain ⟨ks, rows, most, hk, ⟨lr, rfl, rv, hr, hrows⟩, rfl, hk4, hall, hm, k⟩ := h
    have hl := hrows.length
    refine ⟨_, rfl, _, _, rfl, SqL.of hr, ?_⟩
    refine for_it (walk_enum (K := K) (a := lr) (xs := rv)) (fun i σ H' => ∃ x3 x4, σ = [some kv, some (.ref lr), some (.int most), x3, x4] ∧ Same H H') ⟨none, none, rfl, Same.refl H⟩ ?_ ?_ ?_
    · rintro i σ H' _ ⟨_, _, _, s⟩
      exact SqL.of (s _ _ hr)
    · rintro i x σ H' H2 hi ⟨x3, x4, rfl, s⟩ ⟨T, x1, w, rfl, hT, rfl, hx1, hw⟩
      cases hx1
      obtain ⟨r, hr', hra⟩ := P2.get hrows hw
      have s2 := s.trans (Rs.Same.new (o := .tup [.int (i : Nat), w]) hT)
      refine ⟨T, _, rfl, SqT.of upd_same, rfl, _, _, rfl, _, _, rfl, rfl, ?_⟩
      refine ⟨_, rfl, _, rfl, _, _, rfl, rfl, _, rfl, ?_⟩
      rw [decide_eq_false (show ¬ most ≤ ((i : Nat) : Int) by omega)]
      have st := TupLe.same s2
      have gr := hall r (List.mem_of_getElem? hr')
      refine ⟨_, rfl, _, rfl, ks, r, hk.mono st, RowAt.st _ _ _ _ st hra, RowSz.of gr hk4, by omega, fun H3 s3 => ⟨_, rfl, ?_⟩⟩
      rw [gr]
      exact ⟨_, _, rfl, s2.trans s3⟩
    · rintro σ H' ⟨x3, x4, rfl, s⟩
      exact k _ s
abbrev N_joined : List Str := ["order", "one", "other", "found", "here", "pair"]
abbrev P_joined : List Str := ["order", "one", "other"]
/-- two lists in order, as one -/
def mrg (o : Ord) : List Pr → List Pr → List Pr
  | xs, [] => xs
  | xs, y :: ys => (xs.takeWhile fun x => before o x y) ++ y :: mrg o (xs.dropWhile fun x => before o x y) ys
def sp_joined (K : PySem.W.Frag) : Sp := fun vs H Q E => match vs with
  | [ov, a, b] => ∃ o xs ys, LstV TurnAt H ov o ∧ LstV PairAt H a xs ∧ LstV PairAt H b ys ∧ (∀ x ∈ xs, ∀ y ∈ ys, Cmp o x.2 y.2) ∧ xs.length + ys.length ≤ 1000 ∧
    ∀ f H', H f = none → Lst PairAt H' f (mrg o xs ys) → Same H H' → Q (.ref f) H'
  | _ => False
def t_joined (K : PySem.W.Frag) (E : XK) : TS := (tSeq (tAsg (tLst tNil) (gName 3))
  (tSeq (tAsg (tC (.int 0)) (gName 4))
   (tSeq (tFor (iList K (tVar 2)) (gName 5) 
      (tSeq (tWhile (tAnd (tTest (tOp xLt (tVar 4) (tCB1 (xLen K) (tVar 1)))) (tB (tCall (sp_is_before K) [] E (tCons (tVar 0) (tCons (tOp (rIxL K) (tVar 1) (tVar 4)) (tCons (tVar 5) tNil)))))) 
        (tSeq (tDrop (tBM K "list" rAppend (tVar 3) (tCons (tOp (rIxL K) (tVar 1) (tVar 4)) tNil)))
        (tAsg (tOpC xAdd (tVar 4) (.int 1)) (gName 4))))
      (tDrop (tBM K "list" rAppend (tVar 3) (tCons (tVar 5) tNil)))))
    (tRet (tOp rCat (tVar 3) (tSl (rSlL K) (tVar 1) (tPart (tVar 4)) tNoPart))))))
theorem drop_dw {α : Type} (p : α → Bool) : ∀ (xs : List α), xs.dropWhile p = xs.drop (xs.takeWhile p).length
  | [] => rfl
  | x :: xs => by
    rw [List.dropWhile_cons, List.takeWhile_cons]
    cases p x
    · rfl
    · simpa using drop_dw p xs
theorem len_tw {α : Type} (p : α → Bool) : ∀ (xs : List α), (xs.takeWhile p).length ≤ xs.length
  | [] => Nat.le_refl _
  | x :: xs => by
    rw [List.takeWhile_cons]
    cases p x
    · simp
    · simpa using len_tw p xs
theorem cut_from {xs : List V} {n : Nat} (h : n ≤ xs.length) : cutV xs (some (n : Int)) none = xs.drop n := by
  unfold cutV
  rw [HT.sIx_nat, HT.sIx_none, Nat.min_eq_left h]
  exact List.take_of_length_le (by rw [List.length_drop]; exact Nat.le_refl _)
theorem cut_to {xs : List V} {n : Nat} (h : n ≤ xs.length) : cutV xs none (some (n : Int)) = xs.take n := by
  unfold cutV
  rw [HT.sIx_nat, HT.sIx_none, Nat.min_eq_left h, List.drop_zero]
  rfl
theorem cut_mid {xs : List V} {i j : Nat} : cutV xs (some (i : Int)) (some (j : Int)) = (xs.drop i).take (j - i) := by
  unfold cutV
  rw [HT.sIx_nat, HT.sIx_nat]
  by_cases hi : i ≤ xs.length
  · rw [Nat.min_eq_left hi]
    by_cases hj : j ≤ xs.length
    · rw [Nat.min_eq_left hj]
    · rw [Nat.min_eq_right (by omega), List.take_of_length_le (by rw [List.length_drop]; exact Nat.le_refl _), List.take_of_length_le (by rw [List.length_drop]; omega)]
  · rw [Nat.min_eq_right (by omega : xs.length ≤ i), List.drop_of_length_le (Nat.le_refl _), List.drop_of_length_le (by omega : xs.length ≤ i)]
    simp
theorem pure_joined {K : PySem.W.Frag} : ∀ vs H Q E, sp_joined K vs H Q E → t_joined K E { nx := fun _ H' => Q .non H', rt := Q } (start N_joined vs) H := by
  intro vs H Q E h
  match vs, h with
  | [ov, a, b], h =>
    obtain ⟨o, xs, ys, ho, ⟨lx, rfl, xv, hx, hxs⟩, ⟨ly, rfl, yv, hy, hys⟩, hc, hlen, k⟩ := h
    have hlx := hxs.length
    have hly := hys.length
    refine ⟨sz0, fun f hf => ?_⟩
    -- W: done so far, here, still to come
    refine ⟨_, rfl, ly, rfl, ⟨_, SqL.of (un hy hf)⟩, ?_⟩
    refine for_list (K := K) (a := ly) (xs := yv) (fun i σ H' => ∃ (here : Nat) (ds : List Pr) (x5 : Option V), σ = [some ov, some (.ref lx), some (.ref ly), some (.ref f), some (.int (here : Int)), x5] ∧ Same H H' ∧ Lst PairAt H' f ds ∧ here ≤ xs.length ∧ ds.length = here + i ∧ ds ++ mrg o (xs.drop here) (ys.drop i) = mrg o xs ys)
      ⟨0, [], none, rfl, Rs.Same.new hf, ⟨[], upd_same, .nil⟩, Nat.zero_le _, rfl, rfl⟩ ?_ ?_ ?_
    · rintro i σ H' _ ⟨_, _, _, _, s, _⟩
      exact SqL.of (s _ _ hy)
    · rintro i v σ H' hi ⟨here, ds, x5, rfl, s, hd, hh, hdl, he⟩
      obtain ⟨y, hy', hya⟩ := P2.get hys hi
      have hil := (List.getElem?_eq_some_iff.mp hi).1
      have hdrop : ys.drop i = y :: ys.drop (i + 1) := drop_cons hy'
      rw [hdrop] at he
      -- the while: up to the first of xs that isn't ahead of y
      refine ⟨fun m σ H' => ∃ (here : Nat) (ds : List Pr), m = xs.length - here ∧ σ = [some ov, some (.ref lx), some (.ref ly), some (.ref f), some (.int (here : Int)), some v] ∧ Same H H' ∧ Lst PairAt H' f ds ∧ here ≤ xs.length ∧ ds.length = here + i ∧ ds ++ mrg o (xs.drop here) (y :: ys.drop (i + 1)) = mrg o xs ys, ⟨_, here, ds, rfl, rfl, s, hd, hh, hdl, he⟩, ?_⟩
      rintro m σ' H1 ⟨here, ds, rfl, rfl, s, ⟨dv, hf1, hds⟩, hh, hdl, he⟩
      have hdv := hds.length
      refine ⟨_, rfl, _, rfl, _, _, rfl, .inl (SqL.of (s _ _ hx)), _, _, rfl, rfl, _, rfl, ?_⟩
      -- where it ends
      have stop : ∀ (D : Ends) (H2 : Hp), (∀ σ H', (∃ (here : Nat) (ds : List Pr) (x5 : Option V), σ = [some ov, some (.ref lx), some (.ref ly), some (.ref f), some (.int (here : Int)), x5] ∧ Same H H' ∧ Lst PairAt H' f ds ∧ here ≤ xs.length ∧ ds.length = here + (i + 1) ∧ ds ++ mrg o (xs.drop here) (ys.drop (i + 1)) = mrg o xs ys) → D.nx σ H') →
          Same H H2 → H2 f = some (.lst dv) → Paired (PairAt H2) dv ds → (∀ x r, xs.drop here = x :: r → before o x y = false) → (tDrop (tBM K "list" rAppend (tVar 3) (tCons (tVar 5) tNil))) D
            [some ov, some (.ref lx), some (.ref ly), some (.ref f), some (.int (here : Int)), some v] H2 := fun D H2 hD s2 hf2 hds2 hst => by
        refine ⟨_, rfl, .inl ⟨rfl, _, SqL.of hf2⟩, _, rfl, _, _, _, rfl, rfl, hf2, szlt (by omega), ?_⟩
        have t2 : TupLe H2 (upd H2 f (.lst (dv ++ [v]))) := (TupLe.refl H2).list hf2
        refine hD _ _ ⟨here, ds ++ [y], _, rfl, Rs.Same.mut s2 hf, ⟨_, upd_same, P2.app (Paired.tl PairAt.st t2 hds2) (P2.one (PairAt.st _ _ _ _ ((TupLe.same s2).trans t2) hya))⟩, hh, by simp; omega, ?_⟩
        rw [← he]
        have e1 : ((xs.drop here).takeWhile fun x => before o x y) = [] := by
          cases hq : xs.drop here with
          | nil => rfl
          | cons x r => rw [List.takeWhile_cons, hst x r hq] <;> rfl
        have e2 : ((xs.drop here).dropWhile fun x => before o x y) = xs.drop here := by
          cases hq : xs.drop here with
          | nil => rfl
          | cons x r => rw [List.dropWhile_cons, hst x r hq] <;> rfl
        show (ds ++ [y]) ++ mrg o (xs.drop here) (ys.drop (i + 1)) = ds ++ (((xs.drop here).takeWhile fun x => before o x y) ++ y :: mrg o ((xs.drop here).dropWhile fun x => before o x y) (ys.drop (i + 1)))
        rw [e1, e2]
        simp
      by_cases hlt : (here : Int) < (xv.length : Int)
      · rw [decide_eq_true hlt]
        have hlt' : here < xs.length := by omega
        obtain ⟨w, hw, hwa⟩ := P2.get' hxs (List.getElem?_eq_getElem hlt')
        have tH := TupLe.same s
        refine ⟨_, rfl, _, rfl, _, rfl, _, _, _, _, rfl, rfl, SqL.of (s _ _ hx), at_of rfl hw, _, rfl, o, xs[here], y, LstV.same TurnAt.st s ho, PairAt.st _ _ _ _ tH hwa, PairAt.st _ _ _ _ tH hya, hc _ (List.getElem_mem hlt') _ (List.mem_of_getElem? hy'), _, rfl, ?_⟩
        cases hb : before o xs[here] y with
        | true =>
          refine ⟨fun σ2 H2 => ∃ (h2 : Nat) (ds2 : List Pr), h2 = here + 1 ∧ σ2 = [some ov, some (.ref lx), some (.ref ly), some (.ref f), some (.int (h2 : Int)), some v] ∧ Same H H2 ∧ Lst PairAt H2 f ds2 ∧ h2 ≤ xs.length ∧ ds2.length = h2 + i ∧ ds2 ++ mrg o (xs.drop h2) (y :: ys.drop (i + 1)) = mrg o xs ys, ?_, ?_⟩
          · rintro σ2 H2 ⟨h2, ds2, rfl, e1, e2, e3, e4, e5, e6⟩
            exact ⟨xs.length - (here + 1), by omega, here + 1, ds2, rfl, e1, e2, e3, e4, e5, e6⟩
          · refine ⟨_, rfl, .inl ⟨rfl, _, SqL.of hf1⟩, _, rfl, _, rfl, _, _, _, _, rfl, rfl, SqL.of (s _ _ hx), at_of rfl hw, _, _, _, rfl, rfl, hf1, szlt (by omega), _, rfl, _, _, rfl, rfl, ?_⟩
            have t2 : TupLe H1 (upd H1 f (.lst (dv ++ [w]))) := (TupLe.refl H1).list hf1
            refine ⟨here + 1, ds ++ [xs[here]], rfl, rfl, Rs.Same.mut s hf, ⟨_, upd_same, P2.app (Paired.tl PairAt.st t2 hds) (P2.one (PairAt.st _ _ _ _ (tH.trans t2) hwa))⟩, hlt', by simp; omega, ?_⟩
            rw [← he, drop_cons (List.getElem?_eq_getElem hlt')]
            show (ds ++ [xs[here]]) ++ (((xs.drop (here + 1)).takeWhile fun x => before o x y) ++ y :: mrg o ((xs.drop (here + 1)).dropWhile fun x => before o x y) (ys.drop (i + 1))) =
              ds ++ (((xs[here] :: xs.drop (here + 1)).takeWhile fun x => before o x y) ++ y :: mrg o ((xs[here] :: xs.drop (here + 1)).dropWhile fun x => before o x y) (ys.drop (i + 1)))
            rw [List.takeWhile_cons, List.dropWhile_cons, hb]
            simp
        | false =>
          refine stop _ H1 (fun σ H' h => h) s hf1 hds fun x r e => ?_
          rw [drop_cons (List.getElem?_eq_getElem hlt')] at e
          cases e
          exact hb
      · rw [decide_eq_false hlt]
        refine stop _ H1 (fun σ H' h => h) s hf1 hds fun x r e => ?_
        rw [List.drop_of_length_le (by omega)] at e
        cases e
    · rintro σ H' ⟨here, ds, x5, rfl, s, ⟨dv, hf1, hds⟩, hh, hdl, he⟩
      have hdv := hds.length
      refine ⟨_, rfl, _, rfl, _, rfl, _, rfl, _, _, rfl, SqL.of (s _ _ hx), fun p hp => ?_⟩
      have ecut : cutV xv (some (here : Int)) none = xv.drop here := cut_from (by omega)
      rw [ecut]
      have hf2 : upd H' p (.lst (xv.drop here)) f = _ := un hf1 hp
      refine ⟨_, _, _, _, rfl, rfl, hf2, upd_same, szle (by rw [List.length_drop]; omega), fun q hq => ?_⟩
      have s3 : Same H (upd H' p (.lst (xv.drop here))) := s.trans (Rs.Same.new hp)
      have hq0 : H q = none := s3.free hq
      have tt : TupLe H' (upd (upd H' p (.lst (xv.drop here))) q (.lst (dv ++ xv.drop here))) := (TupLe.new hp).trans (TupLe.new hq)
      refine k q _ hq0 ⟨_, upd_same, ?_⟩ (s3.trans (Rs.Same.new hq))
      have ey : ys.drop yv.length = [] := List.drop_of_length_le (by omega)
      rw [ey] at he
      rw [← he]
      exact P2.app (Paired.tl PairAt.st tt hds) (Paired.tl PairAt.st ((TupLe.same s).trans tt) (P2.drop here hxs))
end Rs

namespace Rs
open PySem PySem.Spec PyProof.Rows L2
/-! ### merging, putting in: what is in order stays so -/
theorem mrg_nil (o : Ord) (xs : List Pr) : mrg o xs [] = xs := by unfold mrg; rfl
theorem mrg_cons (o : Ord) (xs : List Pr) (y : Pr) (ys : List Pr) : mrg o xs (y :: ys) = (xs.takeWhile fun x => before o x y) ++ y :: mrg o (xs.dropWhile fun x => before o x y) ys := rfl
theorem mrg_perm (o : Ord) : ∀ (ys xs : List Pr), (mrg o xs ys).Perm (xs ++ ys)
  | [], xs => by rw [mrg_nil, List.append_nil]
  | y :: ys, xs => by
    rw [mrg_cons]
    have ih := mrg_perm o ys (xs.dropWhile fun x => before o x y)
    have e : xs ++ y :: ys = (xs.takeWhile fun x => before o x y) ++ ((xs.dropWhile fun x => before o x y) ++ y :: ys) := by
      rw [← List.append_assoc, List.takeWhile_append_dropWhile]
    rw [e]
    refine List.Perm.append_left _ ?_
    exact (ih.cons y).trans List.perm_middle.symm
theorem Fine.left {ks : List Str} {xs ys : List Pr} (h : Fine ks (xs ++ ys)) : Fine ks xs := h.sub (List.sublist_append_left _ _)
theorem Fine.right {ks : List Str} {xs ys : List Pr} (h : Fine ks (xs ++ ys)) : Fine ks ys := h.sub (List.sublist_append_right _ _)
theorem nodup_ne {xs ys : List Pr} (h : ((xs ++ ys).map (·.1)).Nodup) {x y : Pr} (hx : x ∈ xs) (hy : y ∈ ys) : x.1 ≠ y.1 := by
  rw [List.map_append] at h
  intro e
  exact (List.nodup_append.mp h).2.2 _ (List.mem_map_of_mem hx) _ (List.mem_map_of_mem hy) e
/-- what isn't ahead is behind -/
theorem after_of {ks : List Str} {o : Ord} (ho : ∀ t ∈ o, t.1 < ks.length) {x y : Pr} (hx : isRow ks x.2 = true) (hy : isRow ks y.2 = true) (n : x.1 ≠ y.1) (h : before o x y = false) : before o y x = true := by
  rw [before_tot o (cmp_of ho hx hy) n, h]
  rfl
theorem mem_tw {p : Pr → Bool} : ∀ {xs : List Pr} {x : Pr}, x ∈ xs.takeWhile p → p x = true
  | [], _, h => by simp at h
  | a :: xs, x, h => by
    rw [List.takeWhile_cons] at h
    cases ha : p a with
    | true =>
      rw [ha] at h
      rcases List.mem_cons.mp h with e | e
      · rw [e]; exact ha
      · exact mem_tw e
    | false =>
      rw [ha] at h
      simp at h
theorem mrg_up {ks : List Str} {o : Ord} (ho : ∀ t ∈ o, t.1 < ks.length) : ∀ (ys xs : List Pr), Fine ks (xs ++ ys) → Up o xs → Up o ys → Up o (mrg o xs ys)
  | [], xs, _, a, _ => by rw [mrg_nil]; exact a
  | y :: ys, xs, f, a, b => by
    rw [mrg_cons]
    have hsplit : (xs.takeWhile fun x => before o x y) ++ (xs.dropWhile fun x => before o x y) = xs := List.takeWhile_append_dropWhile
    have rx : ∀ x ∈ xs, isRow ks x.2 = true := fun x hx => f.row x (List.mem_append_left _ hx)
    have ry : ∀ z ∈ y :: ys, isRow ks z.2 = true := fun z hz => f.row z (List.mem_append_right _ hz)
    have cm : ∀ p q : Pr, isRow ks p.2 = true → isRow ks q.2 = true → Cmp o p.2 q.2 := fun p q hp hq => cmp_of ho hp hq
    have fd : Fine ks ((xs.dropWhile fun x => before o x y) ++ ys) := f.sub (List.Sublist.append (List.dropWhile_sublist _) (List.sublist_cons_self _ _))
    have ad : Up o (xs.dropWhile fun x => before o x y) := List.Pairwise.sublist (List.dropWhile_sublist _) a
    have at_ : Up o (xs.takeWhile fun x => before o x y) := List.Pairwise.sublist (List.takeWhile_sublist _) a
    have ih := mrg_up ho ys (xs.dropWhile fun x => before o x y) fd ad (List.Pairwise.of_cons b)
    have pm := mrg_perm o ys (xs.dropWhile fun x => before o x y)
    -- y is ahead of what is left of xs
    have yd : ∀ z ∈ xs.dropWhile fun x => before o x y, before o y z = true := by
      intro z hz
      cases hd : xs.dropWhile fun x => before o x y with
      | nil => rw [hd] at hz; simp at hz
      | cons x0 r =>
        have h0 : before o x0 y = false := by
          have := List.head_dropWhile_not (fun x => before o x y) (l := xs) (by rw [hd]; simp)
          simpa [hd] using this
        have x0x : x0 ∈ xs := (List.dropWhile_sublist _).subset (by rw [hd]; exact List.mem_cons_self ..)
        have n0 : x0.1 ≠ y.1 := nodup_ne f.nd x0x (List.mem_cons_self ..)
        have b0 := after_of ho (rx x0 x0x) (ry y (List.mem_cons_self ..)) n0 h0
        rw [hd] at hz ad
        rcases List.mem_cons.mp hz with e | e
        · rw [e]; exact b0
        · have zx : z ∈ xs := (List.dropWhile_sublist _).subset (by rw [hd]; exact List.mem_cons_of_mem _ e)
          exact before_trans o (cm y x0 (ry y (List.mem_cons_self ..)) (rx x0 x0x)) (cm x0 z (rx x0 x0x) (rx z zx)) b0 (List.rel_of_pairwise_cons ad e)
    have yall : ∀ z ∈ mrg o (xs.dropWhile fun x => before o x y) ys, before o y z = true := fun z hz => by
      rcases List.mem_append.mp (pm.mem_iff.mp hz) with h | h
      · exact yd z h
      · exact List.rel_of_pairwise_cons b h
    refine List.pairwise_append.mpr ⟨at_, List.pairwise_cons.mpr ⟨yall, ih⟩, fun x hx z hz => ?_⟩
    have hxy : before o x y = true := mem_tw (p := fun x => before o x y) hx
    have xx : x ∈ xs := (List.takeWhile_sublist _).subset hx
    rcases List.mem_cons.mp hz with e | e
    · rw [e]; exact hxy
    · have hzr : isRow ks z.2 = true := by
        rcases List.mem_append.mp (pm.mem_iff.mp e) with h | h
        · exact rx z ((List.dropWhile_sublist _).subset h)
        · exact ry z (List.mem_cons_of_mem _ h)
      exact before_trans o (cm x y (rx x xx) (ry y (List.mem_cons_self ..))) (cm y z (ry y (List.mem_cons_self ..)) hzr) hxy (yall z e)
/-- one put in at its place -/
theorem put_up {ks : List Str} {o : Ord} (ho : ∀ t ∈ o, t.1 < ks.length) {ys : List Pr} {p : Pr} {n : Nat} (f : Fine ks (p :: ys)) (a : Up o ys) (h1 : ∀ i y, i < n → ys[i]? = some y → before o p y = false) (h2 : ∀ i y, n ≤ i → ys[i]? = some y → before o p y = true) :
    Up o (ys.take n ++ [p] ++ ys.drop n) := by
  have rp : isRow ks p.2 = true := f.row p (List.mem_cons_self ..)
  have ry : ∀ y ∈ ys, isRow ks y.2 = true := fun y hy => f.row y (List.mem_cons_of_mem _ hy)
  have tp : ∀ y ∈ ys.take n, before o y p = true := fun y hy => by
    obtain ⟨i, hi, e⟩ := List.mem_iff_getElem.mp hy
    rw [List.length_take] at hi
    have e2 : ys[i]? = some y := by
      rw [← e, List.getElem_take]
      exact List.getElem?_eq_getElem (by omega)
    have yy : y ∈ ys := List.mem_of_getElem? e2
    exact after_of ho rp (ry y yy) (nodup_ne (xs := [p]) (ys := ys) f.nd (List.mem_singleton.mpr rfl) yy) (h1 i y (by omega) e2)
  have pd : ∀ y ∈ ys.drop n, before o p y = true := fun y hy => by
    obtain ⟨i, hi, e⟩ := List.mem_iff_getElem.mp hy
    refine h2 (n + i) y (by omega) ?_
    rw [← e, List.getElem_drop]
    exact List.getElem?_eq_getElem (by rw [List.length_drop] at hi; omega)
  have a2 : Up o (ys.take n ++ ys.drop n) := by rw [List.take_append_drop]; exact a
  obtain ⟨b1, b2, b3⟩ := List.pairwise_append.mp a2
  rw [List.append_assoc]
  refine List.pairwise_append.mpr ⟨b1, List.pairwise_cons.mpr ⟨pd, b2⟩, fun x hx z hz => ?_⟩
  rcases List.mem_cons.mp hz with e | e
  · rw [e]; exact tp x hx
  · exact b3 x hx z e
abbrev N_in_order : List Str := ["order", "pairs", "half"]
abbrev P_in_order : List Str := ["order", "pairs"]
def sortSpec (K : PySem.W.Frag) (most : Nat) : Sp := fun vs H Q E => match vs with
  | [ov, pv] => ∃ ks o xs, LstV TurnAt H ov o ∧ LstV PairAt H pv xs ∧ (∀ t ∈ o, t.1 < ks.length) ∧ Fine ks xs ∧ xs.length ≤ most ∧
    ∀ f ys H', H f = none → Lst PairAt H' f ys → ys.Perm xs → Up o ys → Same H H' → Q (.ref f) H'
  | _ => False
def spr_in_order (K : PySem.W.Frag) : Nat → Sp
  | 0 => fun _ _ _ _ => False
  | d + 1 => sortSpec K (min 1000 (2 ^ d))
abbrev sp_in_order (K : PySem.W.Frag) : Sp := spr_in_order K 9
theorem len_in_order (K : PySem.W.Frag) : ∀ d vs H Q E, spr_in_order K d vs H Q E → vs.length = 2
  | 0, _, _, _, _, h => h.elim
  | d + 1, vs, H, Q, E, h => by
    unfold spr_in_order at h
    match vs, h with
    | [_, _], _ => rfl
theorem no_in_order (K : PySem.W.Frag) : ∀ vs H Q E, ¬ spr_in_order K 0 vs H Q E := fun _ _ _ _ h => h
def t_in_order (K : PySem.W.Frag) (sp : Sp) (E : XK) : TS := (tSeq (tIfS (tTest (tOpC xLt (tCB1 (xLen K) (tVar 1)) (.int 2))) (tRet (tCB1 (xList K) (tVar 1))) tNext)
  (tSeq (tAsg (tOpC xDiv (tCB1 (xLen K) (tVar 1)) (.int 2)) (gName 2))
   (tRet (tCall (sp_joined K) [] E (tCons (tVar 0) (tCons (tCall sp [] E (tCons (tVar 0) (tCons (tSl (rSlL K) (tVar 1) tNoPart (tPart (tVar 2))) tNil))) (tCons (tCall sp [] E (tCons (tVar 0) (tCons (tSl (rSlL K) (tVar 1) (tPart (tVar 2)) tNoPart) tNil))) tNil)))))))
theorem pure_in_order {K : PySem.W.Frag} (d : Nat) : ∀ vs H Q E, spr_in_order K (d + 1) vs H Q E → t_in_order K (spr_in_order K d) E { nx := fun _ H' => Q .non H', rt := Q } (start N_in_order vs) H := by
  intro vs H Q E h
  unfold spr_in_order at h
  match vs, h with
  | [ov, pv], h =>
    obtain ⟨ks, o, xs, ho, ⟨lx, rfl, xv, hx, hxs⟩, hcol, hf, hlen, k⟩ := h
    have hl := hxs.length
    refine ⟨_, rfl, _, _, rfl, .inl (SqL.of hx), _, _, rfl, rfl, _, rfl, ?_⟩
    by_cases h2 : (xv.length : Int) < 2
    · rw [decide_eq_true h2]
      refine ⟨_, rfl, _, _, rfl, .inl (SqL.of hx), fun f hf' => ?_⟩
      refine k f xs _ hf' ⟨_, upd_same, Paired.tl PairAt.st (TupLe.new hf') hxs⟩ (.refl _) ?_ (Rs.Same.new hf')
      match xs, hl with
      | [], _ => exact .nil
      | [x], _ => exact List.pairwise_singleton _ _
      | x :: y :: r, e => simp at e; omega
    · rw [decide_eq_false h2]
      obtain ⟨e, rfl⟩ : ∃ e, d = e + 1 := by
        cases d with
        | zero => rw [Nat.pow_zero] at hlen; omega
        | succ e => exact ⟨e, rfl⟩
      have hpow : xs.length ≤ 2 * 2 ^ e := by rw [Nat.pow_succ] at hlen; omega
      refine ⟨_, rfl, _, _, rfl, .inl (SqL.of hx), _, _, rfl, rfl, div_ok (by decide) (by decide), ?_⟩
      have hd : ((xv.length : Int) / 2) = ((xv.length / 2 : Nat) : Int) := by omega
      refine ⟨_, rfl, _, rfl, _, rfl, _, rfl, _, rfl, _, _, rfl, SqL.of hx, fun p hp => ?_⟩
      rw [hd, cut_to (by omega)]
      have s1 := Rs.Same.new (o := .lst (xv.take (xv.length / 2))) hp
      refine ⟨ks, o, xs.take (xv.length / 2), LstV.same TurnAt.st s1 ho, ⟨p, rfl, _, upd_same, Paired.tl PairAt.st (TupLe.same s1) (P2.take _ hxs)⟩, hcol, hf.take _, by rw [List.length_take]; omega, fun f1 ys1 H1 n1 hy1 p1 u1 s2 => ?_⟩
      have s12 := s1.trans s2
      refine ⟨_, rfl, _, rfl, _, rfl, _, rfl, _, _, rfl, SqL.of (s12 _ _ hx), fun q hq => ?_⟩
      rw [hd, cut_from (by omega)]
      have s3 := Rs.Same.new (o := .lst (xv.drop (xv.length / 2))) hq
      have s13 := s12.trans s3
      refine ⟨ks, o, xs.drop (xv.length / 2), LstV.same TurnAt.st s13 ho, ⟨q, rfl, _, upd_same, Paired.tl PairAt.st (TupLe.same s13) (P2.drop _ hxs)⟩, hcol, hf.drop _, by rw [List.length_drop]; omega, fun f2 ys2 H2 n2 hy2 p2 u2 s4 => ?_⟩
      have s14 := s13.trans s4
      have pp : (ys1 ++ ys2).Perm xs := by
        have := p1.append p2
        rw [List.take_append_drop] at this
        exact this
      have hy1' : Lst PairAt H2 f1 ys1 := Lst.same PairAt.st (s3.trans s4) hy1
      have ff : Fine ks (ys1 ++ ys2) := hf.perm pp
      refine ⟨o, ys1, ys2, LstV.same TurnAt.st s14 ho, ⟨f1, rfl, hy1'⟩, ⟨f2, rfl, hy2⟩, fun x hx y hy => cmp_of hcol (ff.row x (List.mem_append_left _ hx)) (ff.row y (List.mem_append_right _ hy)), ?_, fun f H3 nf hres s5 => ?_⟩
      · have e := pp.length_eq
        rw [List.length_append] at e
        omega
      · exact k f _ H3 (s14.free nf) hres ((mrg_perm o ys2 ys1).trans pp) (mrg_up hcol _ _ ff u1 u2) (s14.trans s5)
abbrev N_law_sorted : List Str := ["_law_order_here", "_law_pairs_here", "_law_found", "_law_pair", "_law_low", "_law_high", "_law_half"]
abbrev P_law_sorted : List Str := ["_law_order_here", "_law_pairs_here"]
def sp_law_sorted (K : PySem.W.Frag) : Sp := sortSpec K 1000
def t_law_sorted (K : PySem.W.Frag) (E : XK) : TS := (tSeq (tAsg (tLst tNil) (gName 2))
  (tSeq (tFor (iList K (tVar 1)) (gName 3) 
     (tSeq (tPar 4 5 (tConsC (.int 0) (tCons (tCB1 (xLen K) (tVar 2)) tNil)))
     (tSeq (tWhile (tTest (tOp xLt (tVar 4) (tVar 5))) 
        (tSeq (tAsg (tOpC xDiv (tOp xAdd (tVar 4) (tVar 5)) (.int 2)) (gName 6))
        (tIfS (tB (tCall (sp_law_ahead K) [] E (tCons (tVar 0) (tCons (tVar 3) (tCons (tOp (rIxL K) (tVar 2) (tVar 6)) tNil))))) (tAsg (tVar 6) (gName 5)) (tAsg (tOpC xAdd (tVar 6) (.int 1)) (gName 4)))))
      (tDrop (tBM K "list" xInsert (tVar 2) (tCons (tVar 4) (tCons (tVar 3) tNil)))))))
   (tRet (tVar 2))))
theorem pure_law_sorted {K : PySem.W.Frag} : ∀ vs H Q E, sp_law_sorted K vs H Q E → t_law_sorted K E { nx := fun _ H' => Q .non H', rt := Q } (start N_law_sorted vs) H := by
  intro vs H Q E h
  unfold sp_law_sorted at h
  match vs, h with
  | [ov, pv], h =>
    obtain ⟨ks, o, xs, ho, ⟨lx, rfl, xv, hx, hxs⟩, hcol, hf, hlen, k⟩ := h
    have hl := hxs.length
    refine ⟨sz0, fun f hn => ?_⟩
    refine ⟨_, rfl, lx, rfl, ⟨_, SqL.of (un hx hn)⟩, ?_⟩
    refine for_list (K := K) (a := lx) (xs := xv) (fun i σ H' => ∃ (ys : List Pr) (x3 x4 x5 x6 : Option V), σ = [some ov, some (.ref lx), some (.ref f), x3, x4, x5, x6] ∧ Same H H' ∧ Lst PairAt H' f ys ∧ ys.Perm (xs.take i) ∧ Up o ys)
      ⟨[], none, none, none, none, rfl, Rs.Same.new hn, ⟨[], upd_same, .nil⟩, by simp, .nil⟩ ?_ ?_ ?_
    · rintro i σ H' _ ⟨_, _, _, _, _, _, s, _⟩
      exact SqL.of (s _ _ hx)
    · rintro i v σ H' hi ⟨ys, x3, x4, x5, x6, rfl, s, ⟨yv, hy, hys⟩, hp, hu⟩
      obtain ⟨p, hp', hpa⟩ := P2.get hxs hi
      have hil := (List.getElem?_eq_some_iff.mp hi).1
      have hyl := hys.length
      have hpl := hp.length_eq
      rw [List.length_take] at hpl
      have tH := TupLe.same s
      have pp : (p :: ys).Perm (xs.take (i + 1)) := by
        rw [List.take_succ, hp']
        show (p :: ys).Perm (xs.take i ++ [p])
        exact (List.Perm.cons p hp).trans (List.perm_append_comm (l₁ := [p]) (l₂ := xs.take i))
      have ff : Fine ks (p :: ys) := (hf.take (i + 1)).perm pp
      refine ⟨_, rfl, _, _, rfl, .inl (SqL.of hy), _, _, rfl, ?_⟩
      refine ⟨fun m σ H1 => ∃ (lo hi : Nat) (x6 : Option V), m = hi - lo ∧ σ = [some ov, some (.ref lx), some (.ref f), some v, some (.int (lo : Int)), some (.int (hi : Int)), x6] ∧ H1 = H' ∧ lo ≤ hi ∧ hi ≤ ys.length ∧ (∀ j y, j < lo → ys[j]? = some y → before o p y = false) ∧ (∀ j y, hi ≤ j → ys[j]? = some y → before o p y = true),
        ⟨_, 0, ys.length, x6, rfl, by rw [← hyl]; rfl, rfl, Nat.zero_le _, Nat.le_refl _, fun j y h => absurd h (Nat.not_lt_zero _), fun j y h e => absurd (List.getElem?_eq_some_iff.mp e).1 (by omega)⟩, ?_⟩
      rintro m σ H1 ⟨lo, hi_, x6, rfl, rfl, rfl, h1, h2, ha, hb⟩
      refine ⟨_, rfl, _, rfl, _, _, rfl, rfl, _, rfl, ?_⟩
      by_cases hlt : (lo : Int) < (hi_ : Int)
      · rw [decide_eq_true hlt]
        have hmid : ((lo : Int) + (hi_ : Int)) / 2 = (((lo + hi_) / 2 : Nat) : Int) := by omega
        have hmlt : (lo + hi_) / 2 < ys.length := by omega
        obtain ⟨w, hw, hwa⟩ := P2.get' hys (List.getElem?_eq_getElem hmlt)
        refine ⟨fun σ H2 => ∃ (lo2 hi2 : Nat) (x6 : Option V), hi2 - lo2 < hi_ - lo ∧ σ = [some ov, some (.ref lx), some (.ref f), some v, some (.int (lo2 : Int)), some (.int (hi2 : Int)), x6] ∧ H2 = H1 ∧ lo2 ≤ hi2 ∧ hi2 ≤ ys.length ∧ (∀ j y, j < lo2 → ys[j]? = some y → before o p y = false) ∧ (∀ j y, hi2 ≤ j → ys[j]? = some y → before o p y = true), ?_, ?_⟩
        · rintro σ H2 ⟨lo2, hi2, x6, g1, g2⟩
          exact ⟨_, g1, lo2, hi2, x6, rfl, g2⟩
        · refine ⟨_, rfl, _, rfl, _, _, rfl, rfl, _, _, rfl, rfl, div_ok (by decide) (by decide), ?_⟩
          dsimp only
          rw [hmid]
          refine ⟨_, rfl, _, rfl, _, rfl, _, rfl, _, _, _, _, rfl, rfl, SqL.of hy, at_of rfl hw, o, p, ys[(lo + hi_) / 2], LstV.same TurnAt.st s ho, PairAt.st _ _ _ _ tH hpa, hwa, cmp_of hcol (ff.row p (List.mem_cons_self ..)) (ff.row _ (List.mem_cons_of_mem _ (List.getElem_mem hmlt))), _, rfl, ?_⟩
          -- all behind, ahead of the middle
          have rp : isRow ks p.2 = true := ff.row p (List.mem_cons_self ..)
          have rr : ∀ y ∈ ys, isRow ks y.2 = true := fun y hy => ff.row y (List.mem_cons_of_mem _ hy)
          cases hc : before o p ys[(lo + hi_) / 2] with
          | true =>
            refine ⟨_, rfl, lo, (lo + hi_) / 2, _, by omega, rfl, rfl, by omega, by omega, ha, fun j y hj e => ?_⟩
            have hjl := (List.getElem?_eq_some_iff.mp e).1
            by_cases ej : j = (lo + hi_) / 2
            · subst ej
              rw [List.getElem?_eq_getElem hmlt] at e
              cases e
              exact hc
            · have ey : ys[j] = y := by rw [List.getElem?_eq_getElem hjl] at e; exact Option.some.inj e
              have q := List.pairwise_iff_getElem.mp hu ((lo + hi_) / 2) j hmlt hjl (by omega)
              rw [ey] at q
              exact before_trans o (cmp_of hcol rp (rr _ (List.getElem_mem hmlt))) (cmp_of hcol (rr _ (List.getElem_mem hmlt)) (rr y (List.mem_of_getElem? e))) hc q
          | false =>
            refine ⟨_, rfl, _, _, rfl, rfl, (lo + hi_) / 2 + 1, hi_, _, by omega, rfl, rfl, by omega, by omega, fun j y hj e => ?_, hb⟩
            have hjl := (List.getElem?_eq_some_iff.mp e).1
            by_cases ej : j = (lo + hi_) / 2
            · subst ej
              rw [List.getElem?_eq_getElem hmlt] at e
              cases e
              exact hc
            · have ey : ys[j] = y := by rw [List.getElem?_eq_getElem hjl] at e; exact Option.some.inj e
              have q := List.pairwise_iff_getElem.mp hu j ((lo + hi_) / 2) hjl hmlt (by omega)
              rw [ey] at q
              cases hpy : before o p y with
              | false => rfl
              | true =>
                have t := before_trans o (cmp_of hcol rp (rr y (List.mem_of_getElem? e))) (cmp_of hcol (rr y (List.mem_of_getElem? e)) (rr _ (List.getElem_mem hmlt))) hpy q
                rw [hc] at t
                cases t
      · rw [decide_eq_false hlt]
        have elo : lo = hi_ := by omega
        refine ⟨_, rfl, .inl ⟨rfl, _, SqL.of hy⟩, _, rfl, _, rfl, _, _, _, _, rfl, rfl, hy, szlt (by omega), by omega, by omega, ?_⟩
        have t2 : TupLe H1 (upd H1 f (.lst (yv.take lo ++ [v] ++ yv.drop lo))) := (TupLe.refl H1).list hy
        refine ⟨ys.take lo ++ [p] ++ ys.drop lo, _, _, _, _, rfl, Rs.Same.mut s hn, ⟨_, upd_same, ?_⟩, ?_, put_up hcol ff hu ha (by rw [elo]; exact hb)⟩
        · exact P2.app (P2.app (Paired.tl PairAt.st t2 (P2.take _ hys)) (P2.one (PairAt.st _ _ _ _ (tH.trans t2) hpa))) (Paired.tl PairAt.st t2 (P2.drop _ hys))
        · refine List.Perm.trans ?_ pp
          rw [List.append_assoc]
          refine List.perm_middle.trans ?_
          show (p :: (ys.take lo ++ ys.drop lo)).Perm (p :: ys)
          rw [List.take_append_drop]
    · rintro σ H' ⟨ys, x3, x4, x5, x6, rfl, s, hy, hp, hu⟩
      rw [List.take_of_length_le (by omega)] at hp
      exact ⟨_, rfl, k f ys H' hn hy hp hu s⟩
end Rs

namespace Rs
open PySem PySem.Spec PyProof.Rows L2
structure TxtRoom (K : PySem.W.Frag) : Prop where
  cl : Cls K (He.ga K "Room")
  n_order : NoAttr K (He.ga K "Room") "order"
  n_cells : NoAttr K (He.ga K "Room") "cells"
def f_Room (x0 x1 : V) : List (Str × V) := [(("order" : Str), x0), (("cells" : Str), x1)]
def RoomOb (K : PySem.W.Frag) (H : Hp) (p : Addr) (x0 x1 : V) : Prop := ∃ dx, H p = some (.ins (He.ga K "Room") dx (f_Room x0 x1))
section
variable {K : PySem.W.Frag} {x0 x1 y : V} {H : Hp} {Q : VK} {p : Addr} {D : Ends} {σ : L2.St}
theorem fl_Room_order : (f_Room x0 x1).lookup ("order" : Str) = some x0 := by
  unfold f_Room
  rw [lk_hd]
theorem pf_Room_order : putF "order" y (f_Room x0 x1) = f_Room y x1 := by
  unfold f_Room
  rw [put_hd]
theorem g_Room_order (T : TxtRoom K) (h : RoomOb K H p x0 x1) (q : Q x0 H) : rFld K "order" (.ref p) H Q := let ⟨dx, h⟩ := h; ⟨p, _, dx, _, _, rfl, h, T.cl, T.n_order, fl_Room_order, q⟩
theorem s_Room_order (T : TxtRoom K) (h : RoomOb K H p x0 x1) (q : ∀ dx, H p = some (.ins (He.ga K "Room") dx (f_Room x0 x1)) → D.nx σ (upd H p (.ins (He.ga K "Room") dx (f_Room y x1)))) : rSFl K "order" (.ref p) y D σ H := by
  obtain ⟨dx, h⟩ := h
  refine ⟨p, _, dx, _, rfl, h, T.cl, T.n_order, by show 2 < 1000; decide, ?_⟩
  rw [pf_Room_order]
  exact q dx h
theorem fl_Room_cells : (f_Room x0 x1).lookup ("cells" : Str) = some x1 := by
  unfold f_Room
  rw [lk_tl (by decide +kernel), lk_hd]
theorem pf_Room_cells : putF "cells" y (f_Room x0 x1) = f_Room x0 y := by
  unfold f_Room
  rw [put_tl (by decide +kernel), put_hd]
theorem g_Room_cells (T : TxtRoom K) (h : RoomOb K H p x0 x1) (q : Q x1 H) : rFld K "cells" (.ref p) H Q := let ⟨dx, h⟩ := h; ⟨p, _, dx, _, _, rfl, h, T.cl, T.n_cells, fl_Room_cells, q⟩
theorem s_Room_cells (T : TxtRoom K) (h : RoomOb K H p x0 x1) (q : ∀ dx, H p = some (.ins (He.ga K "Room") dx (f_Room x0 x1)) → D.nx σ (upd H p (.ins (He.ga K "Room") dx (f_Room x0 y)))) : rSFl K "cells" (.ref p) y D σ H := by
  obtain ⟨dx, h⟩ := h
  refine ⟨p, _, dx, _, rfl, h, T.cl, T.n_cells, by show 2 < 1000; decide, ?_⟩
  rw [pf_Room_cells]
  exact q dx h
theorem no_Room_is_less : (f_Room x0 x1).lookup ("is_less" : Str) = none := by
  unfold f_Room
  rw [lk_tl (by decide +kernel), lk_tl (by decide +kernel), lk_nil]
theorem no_Room_put : (f_Room x0 x1).lookup ("put" : Str) = none := by
  unfold f_Room
  rw [lk_tl (by decide +kernel), lk_tl (by decide +kernel), lk_nil]
theorem no_Room_swap : (f_Room x0 x1).lookup ("swap" : Str) = none := by
  unfold f_Room
  rw [lk_tl (by decide +kernel), lk_tl (by decide +kernel), lk_nil]
theorem no_Room_lesser : (f_Room x0 x1).lookup ("lesser" : Str) = none := by
  unfold f_Room
  rw [lk_tl (by decide +kernel), lk_tl (by decide +kernel), lk_nil]
theorem no_Room_take : (f_Room x0 x1).lookup ("take" : Str) = none := by
  unfold f_Room
  rw [lk_tl (by decide +kernel), lk_tl (by decide +kernel), lk_nil]
theorem no_Room_first_run : (f_Room x0 x1).lookup ("first_run" : Str) = none := by
  unfold f_Room
  rw [lk_tl (by decide +kernel), lk_tl (by decide +kernel), lk_nil]
theorem no_Room_many_in : (f_Room x0 x1).lookup ("many_in" : Str) = none := by
  unfold f_Room
  rw [lk_tl (by decide +kernel), lk_tl (by decide +kernel), lk_nil]
end
structure TxtMaker (K : PySem.W.Frag) : Prop where
  cl : Cls K (He.ga K "Maker")
  n_order : NoAttr K (He.ga K "Maker") "order"
  n_size : NoAttr K (He.ga K "Maker") "size"
  n_room : NoAttr K (He.ga K "Maker") "room"
  n_run : NoAttr K (He.ga K "Maker") "run"
  n_last : NoAttr K (He.ga K "Maker") "last"
def f_Maker (x0 x1 x2 x3 x4 : V) : List (Str × V) := [(("order" : Str), x0), (("size" : Str), x1), (("room" : Str), x2), (("run" : Str), x3), (("last" : Str), x4)]
def MakerOb (K : PySem.W.Frag) (H : Hp) (p : Addr) (x0 x1 x2 x3 x4 : V) : Prop := ∃ dx, H p = some (.ins (He.ga K "Maker") dx (f_Maker x0 x1 x2 x3 x4))
section
variable {K : PySem.W.Frag} {x0 x1 x2 x3 x4 y : V} {H : Hp} {Q : VK} {p : Addr} {D : Ends} {σ : L2.St}
theorem fl_Maker_order : (f_Maker x0 x1 x2 x3 x4).lookup ("order" : Str) = some x0 := by
  unfold f_Maker
  rw [lk_hd]
theorem pf_Maker_order : putF "order" y (f_Maker x0 x1 x2 x3 x4) = f_Maker y x1 x2 x3 x4 := by
  unfold f_Maker
  rw [put_hd]
theorem g_Maker_order (T : TxtMaker K) (h : MakerOb K H p x0 x1 x2 x3 x4) (q : Q x0 H) : rFld K "order" (.ref p) H Q := let ⟨dx, h⟩ := h; ⟨p, _, dx, _, _, rfl, h, T.cl, T.n_order, fl_Maker_order, q⟩
theorem s_Maker_order (T : TxtMaker K) (h : MakerOb K H p x0 x1 x2 x3 x4) (q : ∀ dx, H p = some (.ins (He.ga K "Maker") dx (f_Maker x0 x1 x2 x3 x4)) → D.nx σ (upd H p (.ins (He.ga K "Maker") dx (f_Maker y x1 x2 x3 x4)))) : rSFl K "order" (.ref p) y D σ H := by
  obtain ⟨dx, h⟩ := h
  refine ⟨p, _, dx, _, rfl, h, T.cl, T.n_order, by show 5 < 1000; decide, ?_⟩
  rw [pf_Maker_order]
  exact q dx h
theorem fl_Maker_size : (f_Maker x0 x1 x2 x3 x4).lookup ("size" : Str) = some x1 := by
  unfold f_Maker
  rw [lk_tl (by decide +kernel), lk_hd]
theorem pf_Maker_size : putF "size" y (f_Maker x0 x1 x2 x3 x4) = f_Maker x0 y x2 x3 x4 := by
  unfold f_Maker
  rw [put_tl (by decide +kernel), put_hd]
theorem g_Maker_size (T : TxtMaker K) (h : MakerOb K H p x0 x1 x2 x3 x4) (q : Q x1 H) : rFld K "size" (.ref p) H Q := let ⟨dx, h⟩ := h; ⟨p, _, dx, _, _, rfl, h, T.cl, T.n_size, fl_Maker_size, q⟩
theorem s_Maker_size (T : TxtMaker K) (h : MakerOb K H p x0 x1 x2 x3 x4) (q : ∀ dx, H p = some (.ins (He.ga K "Maker") dx (f_Maker x0 x1 x2 x3 x4)) → D.nx σ (upd H p (.ins (He.ga K "Maker") dx (f_Maker x0 y x2 x3 x4)))) : rSFl K "size" (.ref p) y D σ H := by
  obtain ⟨dx, h⟩ := h
  refine ⟨p, _, dx, _, rfl, h, T.cl, T.n_size, by show 5 < 1000; decide, ?_⟩
  rw [pf_Maker_size]
  exact q dx h
theorem fl_Maker_room : (f_Maker x0 x1 x2 x3 x4).lookup ("room" : Str) = some x2 := by
  unfold f_Maker
  rw [lk_tl (by decide +kernel), lk_tl (by decide +kernel), lk_hd]
theorem pf_Maker_room : putF "room" y (f_Maker x0 x1 x2 x3 x4) = f_Maker x0 x1 y x3 x4 := by
  unfold f_Maker
  rw [put_tl (by decide +kernel), put_tl (by decide +kernel), put_hd]
theorem g_Maker_room (T : TxtMaker K) (h : MakerOb K H p x0 x1 x2 x3 x4) (q : Q x2 H) : rFld K "room" (.ref p) H Q := let ⟨dx, h⟩ := h; ⟨p, _, dx, _, _, rfl, h, T.cl, T.n_room, fl_Maker_room, q⟩
theorem s_Maker_room (T : TxtMaker K) (h : MakerOb K H p x0 x1 x2 x3 x4) (q : ∀ dx, H p = some (.ins (He.ga K "Maker") dx (f_Maker x0 x1 x2 x3 x4)) → D.nx σ (upd H p (.ins (He.ga K "Maker") dx (f_Maker x0 x1 y x3 x4)))) : rSFl K "room" (.ref p) y D σ H := by
  obtain ⟨dx, h⟩ := h
  refine ⟨p, _, dx, _, rfl, h, T.cl, T.n_room, by show 5 < 1000; decide, ?_⟩
  rw [pf_Maker_room]
  exact q dx h
theorem fl_Maker_run : (f_Maker x0 x1 x2 x3 x4).lookup ("run" : Str) = some x3 := by
  unfold f_Maker
  rw [lk_tl (by decide +kernel), lk_tl (by decide +kernel), lk_tl (by decide +kernel), lk_hd]
theorem pf_Maker_run : putF "run" y (f_Maker x0 x1 x2 x3 x4) = f_Maker x0 x1 x2 y x4 := by
  unfold f_Maker
  rw [put_tl (by decide +kernel), put_tl (by decide +kernel), put_tl (by decide +kernel), put_hd]
theorem g_Maker_run (T : TxtMaker K) (h : MakerOb K H p x0 x1 x2 x3 x4) (q : Q x3 H) : rFld K "run" (.ref p) H Q := let ⟨dx, h⟩ := h; ⟨p, _, dx, _, _, rfl, h, T.cl, T.n_run, fl_Maker_run, q⟩
theorem s_Maker_run (T : TxtMaker K) (h : MakerOb K H p x0 x1 x2 x3 x4) (q : ∀ dx, H p = some (.ins (He.ga K "Maker") dx (f_Maker x0 x1 x2 x3 x4)) → D.nx σ (upd H p (.ins (He.ga K "Maker") dx (f_Maker x0 x1 x2 y x4)))) : rSFl K "run" (.ref p) y D σ H := by
  obtain ⟨dx, h⟩ := h
  refine ⟨p, _, dx, _, rfl, h, T.cl, T.n_run, by show 5 < 1000; decide, ?_⟩
  rw [pf_Maker_run]
  exact q dx h
theorem fl_Maker_last : (f_Maker x0 x1 x2 x3 x4).lookup ("last" : Str) = some x4 := by
  unfold f_Maker
  rw [lk_tl (by decide +kernel), lk_tl (by decide +kernel), lk_tl (by decide +kernel), lk_tl (by decide +kernel), lk_hd]
theorem pf_Maker_last : putF "last" y (f_Maker x0 x1 x2 x3 x4) = f_Maker x0 x1 x2 x3 y := by
  unfold f_Maker
  rw [put_tl (by decide +kernel), put_tl (by decide +kernel), put_tl (by decide +kernel), put_tl (by decide +kernel), put_hd]
theorem g_Maker_last (T : TxtMaker K) (h : MakerOb K H p x0 x1 x2 x3 x4) (q : Q x4 H) : rFld K "last" (.ref p) H Q := let ⟨dx, h⟩ := h; ⟨p, _, dx, _, _, rfl, h, T.cl, T.n_last, fl_Maker_last, q⟩
theorem s_Maker_last (T : TxtMaker K) (h : MakerOb K H p x0 x1 x2 x3 x4) (q : ∀ dx, H p = some (.ins (He.ga K "Maker") dx (f_Maker x0 x1 x2 x3 x4)) → D.nx σ (upd H p (.ins (He.ga K "Maker") dx (f_Maker x0 x1 x2 x3 y)))) : rSFl K "last" (.ref p) y D σ H := by
  obtain ⟨dx, h⟩ := h
  refine ⟨p, _, dx, _, rfl, h, T.cl, T.n_last, by show 5 < 1000; decide, ?_⟩
  rw [pf_Maker_last]
  exact q dx h
theorem no_Maker_has_space : (f_Maker x0 x1 x2 x3 x4).lookup ("has_space" : Str) = none := by
  unfold f_Maker
  rw [lk_tl (by decide +kernel), lk_tl (by decide +kernel), lk_tl (by decide +kernel), lk_tl (by decide +kernel), lk_tl (by decide +kernel), lk_nil]
theorem no_Maker_come : (f_Maker x0 x1 x2 x3 x4).lookup ("come" : Str) = none := by
  unfold f_Maker
  rw [lk_tl (by decide +kernel), lk_tl (by decide +kernel), lk_tl (by decide +kernel), lk_tl (by decide +kernel), lk_tl (by decide +kernel), lk_nil]
theorem no_Maker_goes : (f_Maker x0 x1 x2 x3 x4).lookup ("goes" : Str) = none := by
  unfold f_Maker
  rw [lk_tl (by decide +kernel), lk_tl (by decide +kernel), lk_tl (by decide +kernel), lk_tl (by decide +kernel), lk_tl (by decide +kernel), lk_nil]
theorem no_Maker_turn : (f_Maker x0 x1 x2 x3 x4).lookup ("turn" : Str) = none := by
  unfold f_Maker
  rw [lk_tl (by decide +kernel), lk_tl (by decide +kernel), lk_tl (by decide +kernel), lk_tl (by decide +kernel), lk_tl (by decide +kernel), lk_nil]
theorem no_Maker_those_left : (f_Maker x0 x1 x2 x3 x4).lookup ("those_left" : Str) = none := by
  unfold f_Maker
  rw [lk_tl (by decide +kernel), lk_tl (by decide +kernel), lk_tl (by decide +kernel), lk_tl (by decide +kernel), lk_tl (by decide +kernel), lk_nil]
end
/-! ### a heap in a list: swaps up and down -/
def swp {α : Type} (d : α) (cs : List α) (i j : Nat) : List α := (cs.set i (cs.getD j d)).set j (cs.getD i d)
section
variable {α : Type} {d : α} {cs : List α} {i j k : Nat}
theorem swp_len : (swp d cs i j).length = cs.length := by unfold swp; rw [List.length_set, List.length_set]
theorem getD_set (x : α) (hi : i < cs.length) : (cs.set i x).getD k d = if k = i then x else cs.getD k d := by
  rw [List.getD_eq_getElem?_getD, List.getD_eq_getElem?_getD]
  by_cases e : k = i
  · subst e
    rw [if_pos rfl, List.getElem?_set_self hi]
    rfl
  · rw [if_neg e, List.getElem?_set_ne (Ne.symm e)]
theorem swp_get (hi : i < cs.length) (hj : j < cs.length) : (swp d cs i j).getD k d = if k = j then cs.getD i d else if k = i then cs.getD j d else cs.getD k d := by
  unfold swp
  rw [getD_set _ (by rw [List.length_set]; exact hj), getD_set _ hi]
theorem getD_lt (hi : i < cs.length) : cs.getD i d = cs[i] := by
  rw [List.getD_eq_getElem?_getD, List.getElem?_eq_getElem hi]
  rfl
theorem swp_perm (hi : i < cs.length) (hj : j < cs.length) : (swp d cs i j).Perm cs := by
  unfold swp
  rw [getD_lt hi, getD_lt hj]
  exact List.set_set_perm hi hj
theorem getD_mem (hi : i < cs.length) : cs.getD i d ∈ cs := by
  rw [getD_lt hi]
  exact List.getElem_mem hi
end
/-- a strict order of those that are ok -/
structure Strict {α : Type} (ok : α → Prop) (lt : α → α → Bool) : Prop where
  asym : ∀ a b, ok a → ok b → lt a b = true → lt b a = false
  neg : ∀ a b c, ok a → ok b → ok c → lt b a = false → lt c b = false → lt c a = false
section
variable {α : Type} {ok : α → Prop} {lt : α → α → Bool} {d : α}
/-- no cell is ahead of the one above it -/
def IsHeap (lt : α → α → Bool) (d : α) (cs : List α) : Prop := ∀ i, 0 < i → i < cs.length → lt (cs.getD i d) (cs.getD ((i - 1) / 2) d) = false
def HeapUp (lt : α → α → Bool) (d : α) (cs : List α) (at_ : Nat) : Prop :=
  (∀ i, 0 < i → i < cs.length → i ≠ at_ → lt (cs.getD i d) (cs.getD ((i - 1) / 2) d) = false) ∧ ∀ i, 0 < i → i < cs.length → (i - 1) / 2 = at_ → 0 < at_ → lt (cs.getD i d) (cs.getD ((at_ - 1) / 2) d) = false
def HeapDown (lt : α → α → Bool) (d : α) (cs : List α) (at_ : Nat) : Prop :=
  (∀ i, 0 < i → i < cs.length → (i - 1) / 2 ≠ at_ → lt (cs.getD i d) (cs.getD ((i - 1) / 2) d) = false) ∧ ∀ i, 0 < i → i < cs.length → (i - 1) / 2 = at_ → 0 < at_ → lt (cs.getD i d) (cs.getD ((at_ - 1) / 2) d) = false
theorem up_turn (S : Strict ok lt) {cs : List α} {a : Nat} (hok : ∀ x ∈ cs, ok x) (h : HeapUp lt d cs a) (h0 : 0 < a) (ha : a < cs.length) (hl : lt (cs.getD a d) (cs.getD ((a - 1) / 2) d) = true) : HeapUp lt d (swp d cs a ((a - 1) / 2)) ((a - 1) / 2) := by
  have hp : (a - 1) / 2 < cs.length := by omega
  have hpa : (a - 1) / 2 < a := by omega
  have O : ∀ {i}, i < cs.length → ok (cs.getD i d) := fun hi => hok _ (getD_mem hi)
  generalize hpe : (a - 1) / 2 = p at hl hp hpa
  refine ⟨fun i h1 h2 h3 => ?_, fun i h1 h2 h3 h4 => ?_⟩
  · rw [swp_len] at h2
    rw [swp_get ha hp, swp_get ha hp, if_neg h3]
    by_cases e : i = a
    · subst e
      rw [if_pos rfl, hpe, if_pos rfl]
      exact S.asym _ _ (O h2) (O hp) hl
    · rw [if_neg e]
      by_cases e1 : (i - 1) / 2 = p
      · rw [if_pos e1]
        have q := h.1 i h1 h2 e
        rw [e1] at q
        exact S.neg _ _ _ (O ha) (O hp) (O h2) (S.asym _ _ (O ha) (O hp) hl) q
      · rw [if_neg e1]
        by_cases e2 : (i - 1) / 2 = a
        · rw [if_pos e2]
          have q := h.2 i h1 h2 e2 h0
          rw [hpe] at q
          exact q
        · rw [if_neg e2]
          exact h.1 i h1 h2 e
  · rw [swp_len] at h2
    have hg : (p - 1) / 2 < cs.length := by omega
    have n1 : (p - 1) / 2 ≠ p := by omega
    have n2 : (p - 1) / 2 ≠ a := by omega
    rw [swp_get ha hp, swp_get ha hp, if_neg n1, if_neg n2, if_neg (by omega : i ≠ p)]
    have q := h.1 p h4 hp (by omega)
    by_cases e : i = a
    · rw [if_pos e]
      exact q
    · rw [if_neg e]
      have q2 := h.1 i h1 h2 e
      rw [h3] at q2
      exact S.neg _ _ _ (O hg) (O hp) (O h2) q q2
theorem up_end {cs : List α} {a : Nat} (h : HeapUp lt d cs a) (e : a = 0 ∨ lt (cs.getD a d) (cs.getD ((a - 1) / 2) d) = false) : IsHeap lt d cs := fun i h1 h2 => by
  by_cases ei : i = a
  · rcases e with e | e
    · omega
    · rw [ei]; exact e
  · exact h.1 i h1 h2 ei
theorem up_start {cs : List α} {x : α} (h : IsHeap lt d cs) : HeapUp lt d (cs ++ [x]) cs.length := by
  have g : ∀ i, i < cs.length → (cs ++ [x]).getD i d = cs.getD i d := fun i hi => by
    rw [List.getD_eq_getElem?_getD, List.getD_eq_getElem?_getD, List.getElem?_append_left hi]
  refine ⟨fun i h1 h2 h3 => ?_, fun i h1 h2 h3 h4 => ?_⟩
  · rw [List.length_append, List.length_singleton] at h2
    rw [g i (by omega), g _ (by omega)]
    exact h i h1 (by omega)
  · rw [List.length_append, List.length_singleton] at h2
    omega
theorem down_turn (S : Strict ok lt) {cs : List α} {a b : Nat} (hok : ∀ x ∈ cs, ok x) (h : HeapDown lt d cs a) (hb0 : 0 < b) (hb : b < cs.length) (hba : (b - 1) / 2 = a) (hmin : ∀ c, 0 < c → c < cs.length → (c - 1) / 2 = a → lt (cs.getD c d) (cs.getD b d) = false)
    (hl : lt (cs.getD b d) (cs.getD a d) = true) : HeapDown lt d (swp d cs a b) b := by
  have ha : a < cs.length := by omega
  have O : ∀ {i}, i < cs.length → ok (cs.getD i d) := fun hi => hok _ (getD_mem hi)
  refine ⟨fun i h1 h2 h3 => ?_, fun i h1 h2 h3 h4 => ?_⟩
  · rw [swp_len] at h2
    rw [swp_get ha hb, swp_get ha hb]
    rw [if_neg (by omega : (i - 1) / 2 ≠ b)]
    by_cases e : i = b
    · subst e
      rw [if_pos rfl, if_pos hba]
      exact S.asym _ _ (O h2) (O ha) hl
    · rw [if_neg e]
      by_cases e1 : (i - 1) / 2 = a
      · rw [if_pos e1, if_neg (by omega : i ≠ a)]
        exact hmin i h1 h2 e1
      · rw [if_neg e1]
        by_cases e2 : i = a
        · subst e2
          rw [if_pos rfl]
          exact h.2 b hb0 hb hba h1
        · rw [if_neg e2]
          exact h.1 i h1 h2 e1
  · rw [swp_len] at h2
    rw [swp_get ha hb, swp_get ha hb, hba, if_neg (by omega : i ≠ b), if_neg (by omega : i ≠ a), if_neg (by omega : a ≠ b), if_pos rfl]
    have q := h.1 i h1 h2 (by omega)
    rw [h3] at q
    exact q
theorem down_end (S : Strict ok lt) {cs : List α} {a : Nat} (hok : ∀ x ∈ cs, ok x) (h : HeapDown lt d cs a) (e : ∀ c, 0 < c → c < cs.length → (c - 1) / 2 = a → ∃ b, b < cs.length ∧ lt (cs.getD c d) (cs.getD b d) = false ∧ lt (cs.getD b d) (cs.getD a d) = false) : IsHeap lt d cs := fun i h1 h2 => by
  have O : ∀ {i}, i < cs.length → ok (cs.getD i d) := fun hi => hok _ (getD_mem hi)
  by_cases ei : (i - 1) / 2 = a
  · obtain ⟨b, hb, q1, q2⟩ := e i h1 h2 ei
    rw [ei]
    exact S.neg _ _ _ (O (by omega)) (O hb) (O h2) q2 q1
  · exact h.1 i h1 h2 ei
/-- the first is the least -/
theorem heap_min (S : Strict ok lt) {cs : List α} (hok : ∀ x ∈ cs, ok x) (h : IsHeap lt d cs) (irr : ∀ x, lt x x = false) : ∀ i, i < cs.length → lt (cs.getD i d) (cs.getD 0 d) = false := by
  have O : ∀ {i}, i < cs.length → ok (cs.getD i d) := fun hi => hok _ (getD_mem hi)
  intro i
  induction i using Nat.strongRecOn with
  | ind i ih =>
    intro hi
    by_cases e : i = 0
    · subst e
      exact irr _
    · exact S.neg _ _ _ (O (by omega)) (O (by omega)) (O hi) (ih ((i - 1) / 2) (by omega) (by omega)) (h i (by omega) hi)
/-- the last put first, then taken off -/
theorem down_start {cs : List α} (h : IsHeap lt d cs) (h0 : 0 < cs.length) : HeapDown lt d (swp d cs 0 (cs.length - 1)).dropLast 0 := by
  have g : ∀ i, i < cs.length - 1 → (swp d cs 0 (cs.length - 1)).dropLast.getD i d = if i = 0 then cs.getD (cs.length - 1) d else cs.getD i d := fun i hi => by
    have e : (swp d cs 0 (cs.length - 1)).dropLast.getD i d = (swp d cs 0 (cs.length - 1)).getD i d := by
      rw [List.getD_eq_getElem?_getD, List.getD_eq_getElem?_getD, List.getElem?_dropLast, swp_len, if_pos hi]
    rw [e, swp_get h0 (by omega), if_neg (by omega : i ≠ cs.length - 1)]
  refine ⟨fun i h1 h2 h3 => ?_, fun i _ _ _ h4 => absurd h4 (Nat.lt_irrefl _)⟩
  rw [List.length_dropLast, swp_len] at h2
  rw [g i h2, g _ (by omega), if_neg (by omega), if_neg h3]
  exact h i h1 (by omega)
end
/-! ### cells of a room: (run, (number, row)) -/
abbrev Cell := Int × Pr
def c0 : Cell := (0, 0, [])
def cless (o : Ord) (c e : Cell) : Bool := if c.1 ≠ e.1 then decide (c.1 < e.1) else before o c.2 e.2
theorem cless_irrefl (o : Ord) (c : Cell) : cless o c c = false := by
  unfold cless
  rw [if_neg (fun h => h rfl)]
  exact before_irrefl o _
/-- what is ahead of another one is ahead of a third, or that one of the other -/
theorem before_co : ∀ (o : Ord) {a b c : Pr}, Cmp o a.2 b.2 → Cmp o b.2 c.2 → before o c a = true → before o c b = true ∨ before o b a = true
  | [], a, b, c, _, _, h => by
    simp only [before, decide_eq_true_eq] at h ⊢
    omega
  | t :: o, a, b, c, h1, h2, h => by
    have l1 := h1.head
    have l2 := h2.head
    rw [before_cons] at h
    rw [before_cons, before_cons]
    by_cases e : kcol c.2 t.1 = kcol a.2 t.1
    · rw [if_pos e] at h
      by_cases e2 : kcol c.2 t.1 = kcol b.2 t.1
      · rw [if_pos e2, if_pos (e2.symm.trans e)]
        exact before_co o h1.tail h2.tail h
      · rw [if_neg e2, if_neg (fun z => e2 (e.trans z.symm))]
        have q := keyLt_tot l2.symm e2
        rw [e] at q ⊢
        rw [q]
        cases keyLt (kcol a.2 t.1) (kcol b.2 t.1) <;> cases t.2 <;> simp
    · rw [if_neg e] at h
      by_cases e2 : kcol c.2 t.1 = kcol b.2 t.1
      · right
        rw [if_neg (fun z => e (e2.trans z)), ← e2]
        exact h
      · rw [if_neg e2]
        by_cases e3 : kcol b.2 t.1 = kcol a.2 t.1
        · left
          rw [e3]
          exact h
        · rw [if_neg e3]
          have q1 := keyLt_tot l2.symm e2
          have q2 := keyLt_tot l1.symm e3
          have q3 := keyLt_tot (l2.symm.trans l1.symm) e
          have hb := beq_iff_eq.mp h
          cases ht : t.2 with
          | true =>
            rw [ht] at hb
            cases k1 : keyLt (kcol c.2 t.1) (kcol b.2 t.1) with
            | true => left; rfl
            | false =>
              cases k2 : keyLt (kcol b.2 t.1) (kcol a.2 t.1) with
              | true => right; rfl
              | false =>
                rw [k1] at q1
                rw [k2] at q2
                have tr := keyLt_trans q2 q1
                rw [q3, hb] at tr
                cases tr
          | false =>
            rw [ht] at hb
            cases k1 : keyLt (kcol c.2 t.1) (kcol b.2 t.1) with
            | false => left; rfl
            | true =>
              cases k2 : keyLt (kcol b.2 t.1) (kcol a.2 t.1) with
              | false => right; rfl
              | true =>
                have tr := keyLt_trans k1 k2
                rw [hb] at tr
                cases tr
theorem cless_strict {ks : List Str} {o : Ord} (ho : ∀ t ∈ o, t.1 < ks.length) : Strict (fun c : Cell => isRow ks c.2.2 = true) (cless o) where
  asym := fun a b ha hb h => by
    cases hba : cless o b a with
    | false => rfl
    | true =>
      unfold cless at h hba
      by_cases e : a.1 = b.1
      · rw [if_neg (fun z => z e)] at h
        rw [if_neg (fun z => z e.symm)] at hba
        have t := before_trans o (cmp_of ho ha hb) (cmp_of ho hb ha) h hba
        rw [before_irrefl] at t
        cases t
      · rw [if_pos e] at h
        rw [if_pos (Ne.symm e)] at hba
        have h1 := of_decide_eq_true h
        have h2 := of_decide_eq_true hba
        omega
  neg := fun a b c ha hb hc h1 h2 => by
    cases hca : cless o c a with
    | false => rfl
    | true =>
      unfold cless at h1 h2 hca
      by_cases e : c.1 = a.1
      · rw [if_neg (fun z => z e)] at hca
        by_cases e1 : b.1 = a.1
        · rw [if_neg (fun z => z e1)] at h1
          rw [if_neg (fun z => z (e.trans e1.symm))] at h2
          rcases before_co o (cmp_of ho ha hb) (cmp_of ho hb hc) hca with q | q
          · rw [q] at h2; cases h2
          · rw [q] at h1; cases h1
        · rw [if_pos e1] at h1
          rw [if_pos (fun z => e1 (z.symm.trans e))] at h2
          have g1 := of_decide_eq_false h1
          have g2 := of_decide_eq_false h2
          omega
      · rw [if_pos e] at hca
        have g := of_decide_eq_true hca
        by_cases e1 : b.1 = a.1
        · rw [if_pos (fun z => e (z.trans e1))] at h2
          have g2 := of_decide_eq_false h2
          omega
        · rw [if_pos e1] at h1
          have g1 := of_decide_eq_false h1
          by_cases e2 : c.1 = b.1
          · omega
          · rw [if_pos e2] at h2
            have g2 := of_decide_eq_false h2
            omega
end Rs

namespace Rs
open PySem PySem.Spec PyProof.Rows L2
/-! ### a room as it stands -/
def CellAt : Rel Cell := fun H v c => ∃ w, IsTp H v [.int c.1, w] ∧ PairAt H w c.2
theorem CellAt.st : Stable CellAt := fun _ _ _ _ t ⟨w, a, b⟩ => ⟨w, a.mono t, PairAt.st _ _ _ _ t b⟩
structure RoomS (K : PySem.W.Frag) (H : Hp) (p lo lc : Addr) (o : Ord) (cs : List Cell) : Prop where
  ob : RoomOb K H p (.ref lo) (.ref lc)
  ord : Lst TurnAt H lo o
  cells : Lst CellAt H lc cs
  ne : lo ≠ lc
theorem RoomOb.keep {K : PySem.W.Frag} {H H' : Hp} {p : Addr} {x y : V} (h : RoomOb K H p x y) (k : ∀ o, H p = some o → H' p = some o) : RoomOb K H' p x y := let ⟨dx, e⟩ := h; ⟨dx, k _ e⟩
theorem RoomOb.same {K : PySem.W.Frag} {H H' : Hp} {p : Addr} {x y : V} (h : RoomOb K H p x y) (s : Same H H') : RoomOb K H' p x y := h.keep fun o => s p o
theorem But.tupL {H H' : Hp} {l : Addr} {vs : List V} (h : H l = some (.lst vs)) (k : But [l] H H') : TupLe H H' := fun c xs e => k c _ e (by
  intro hm
  rw [List.mem_singleton] at hm
  subst hm
  rw [h] at e
  cases e)
theorem ne1 {a b : Addr} (h : a ≠ b) : a ∉ [b] := fun hm => h (List.mem_singleton.mp hm)
theorem RoomS.same {K : PySem.W.Frag} {H H' : Hp} {p lo lc : Addr} {o : Ord} {cs : List Cell} (h : RoomS K H p lo lc o cs) (s : Same H H') : RoomS K H' p lo lc o cs := ⟨h.ob.same s, h.ord.same TurnAt.st s, h.cells.same CellAt.st s, h.ne⟩
theorem RoomS.plc {K : PySem.W.Frag} {H : Hp} {p lo lc : Addr} {o : Ord} {cs : List Cell} (h : RoomS K H p lo lc o cs) : p ≠ lc := by
  obtain ⟨dx, e⟩ := h.ob
  obtain ⟨vs, e2, _⟩ := h.cells
  exact ne_of e e2 (by intro z; cases z)
/-- other cells at the same place -/
theorem RoomS.other {K : PySem.W.Frag} {H H' : Hp} {p lo lc : Addr} {o : Ord} {cs cs' : List Cell} (h : RoomS K H p lo lc o cs) (k : But [lc] H H') (c : Lst CellAt H' lc cs') : RoomS K H' p lo lc o cs' := by
  obtain ⟨vs, e2, _⟩ := h.cells
  have t := But.tupL e2 k
  exact ⟨h.ob.keep fun u e => k _ _ e (ne1 h.plc), h.ord.keep TurnAt.st t fun u e => k _ _ e (ne1 h.ne), c, h.ne⟩
theorem Lst.cell {α : Type} {R : Rel α} {H : Hp} {l : Addr} {xs : List α} (h : Lst R H l xs) {i : Nat} {x : α} (e : xs[i]? = some x) : ∃ vs v, H l = some (.lst vs) ∧ vs[i]? = some v ∧ R H v x := by
  obtain ⟨vs, a, b⟩ := h
  obtain ⟨v, hv, r⟩ := P2.get' b e
  exact ⟨vs, v, a, hv, r⟩
abbrev N_Room___init__ : List Str := ["self", "order"]
abbrev P_Room___init__ : List Str := ["self", "order"]
def sp_Room___init__ (K : PySem.W.Frag) : Sp := fun vs H Q E => match vs with
  | [s, ov] => ∃ p dx lo o, s = .ref p ∧ ov = .ref lo ∧ H p = some (.ins (He.ga K "Room") dx []) ∧ Lst TurnAt H lo o ∧ ∀ lc H', RoomS K H' p lo lc o [] → H lc = none → But [p] H H' → Q .non H'
  | _ => False
def t_Room___init__ (K : PySem.W.Frag) (E : XK) : TS := (tSeq (sFl K (tVar 0) (tVar 1) "order")
  (sFl K (tVar 0) (tLst tNil) "cells"))
theorem pure_Room___init__ {K : PySem.W.Frag} (T : TxtRoom K) : ∀ vs H Q E, sp_Room___init__ K vs H Q E → t_Room___init__ K E { nx := fun _ H' => Q .non H', rt := Q } (start N_Room___init__ vs) H := by
  intro vs H Q E h
  match vs, h with
  | [s, ov], h =>
    obtain ⟨p, dx, lo, o, rfl, rfl, hp, ho, k⟩ := h
    have npo : lo ≠ p := by
      obtain ⟨tv, e, _⟩ := ho
      exact ne_of e hp (by intro z; cases z)
    refine ⟨_, rfl, _, rfl, p, _, dx, _, rfl, hp, T.cl, T.n_order, by show 0 < 1000; decide, ?_⟩
    rw [put_nil]
    refine ⟨sz0, fun lc hl => ?_⟩
    have hl0 : H lc = none := none_of_but (S := [p]) ((But.refl _ _).put (by simp)) hl (ne1 (ne_of_none upd_same hl).symm)
    have npl : p ≠ lc := ne_of_none upd_same hl
    refine ⟨_, rfl, p, _, dx, _, rfl, un upd_same hl, T.cl, T.n_cells, by show 1 < 1000; decide, ?_⟩
    rw [put_tl (by decide +kernel), put_nil]
    have kk : But [p] H (upd (upd (upd H p (.ins (He.ga K "Room") dx [(("order" : Str), .ref lo)])) lc (.lst [])) p (.ins (He.ga K "Room") dx [(("order" : Str), .ref lo), (("cells" : Str), .ref lc)])) := (((But.refl [p] H).put (by simp)).new hl).put (by simp)
    have tt : TupLe H (upd (upd (upd H p (.ins (He.ga K "Room") dx [(("order" : Str), .ref lo)])) lc (.lst [])) p (.ins (He.ga K "Room") dx [(("order" : Str), .ref lo), (("cells" : Str), .ref lc)])) := fun c xs e => kk c _ e (ne1 (ne_of e hp (by intro z; cases z)))
    refine k lc _ ⟨⟨dx, upd_same⟩, ho.keep TurnAt.st tt fun u e => kk _ _ e (ne1 npo), ⟨[], ?_, .nil⟩, ?_⟩ hl0 kk
    · rw [upd_ne npl.symm]
      exact upd_same
    · obtain ⟨tv, e, _⟩ := ho
      exact ne_of_none e hl0
abbrev N_Room_is_less : List Str := ["self", "one", "other"]
abbrev P_Room_is_less : List Str := ["self", "one", "other"]
def sp_Room_is_less (K : PySem.W.Frag) : Sp := fun vs H Q E => match vs with
  | [s, a, b] => ∃ p lo x o c e, s = .ref p ∧ RoomOb K H p (.ref lo) x ∧ Lst TurnAt H lo o ∧ CellAt H a c ∧ CellAt H b e ∧ Cmp o c.2.2 e.2.2 ∧ Q (.bl (cless o c e)) H
  | _ => False
def t_Room_is_less (K : PySem.W.Frag) (E : XK) : TS := (tSeq (tIfS (tTest (tOp rNe (tOpC (rIxT K) (tVar 1) (.int 0)) (tOpC (rIxT K) (tVar 2) (.int 0)))) (tRet (tOp xLt (tOpC (rIxT K) (tVar 1) (.int 0)) (tOpC (rIxT K) (tVar 2) (.int 0)))) tNext)
  (tRet (tCall (sp_is_before K) [] E (tCons (tFl K (tVar 0) "order") (tCons (tOpC (rIxT K) (tVar 1) (.int 1)) (tCons (tOpC (rIxT K) (tVar 2) (.int 1)) tNil))))))
theorem pure_Room_is_less {K : PySem.W.Frag} (T : TxtRoom K) : ∀ vs H Q E, sp_Room_is_less K vs H Q E → t_Room_is_less K E { nx := fun _ H' => Q .non H', rt := Q } (start N_Room_is_less vs) H := by
  intro vs H Q E h
  match vs, h with
  | [s, a, b], h =>
    obtain ⟨p, lo, x, o, c, e, rfl, ob, ho, ⟨w1, ha, hp1⟩, ⟨w2, hb, hp2⟩, hc, k⟩ := h
    refine ⟨_, rfl, ixT ha (j := 0) rfl rfl ⟨_, rfl, ixT hb (j := 0) rfl rfl ⟨rfl, _, rfl, ?_⟩⟩⟩
    unfold cless at k
    by_cases h1 : c.1 = e.1
    · have d1 : (!decide (V.int c.1 = V.int e.1)) = false := by rw [h1]; simp
      rw [d1]
      rw [if_neg (fun z => z h1)] at k
      exact ⟨_, rfl, g_Room_order T ob ⟨_, rfl, ixT ha (j := 1) rfl rfl ⟨_, rfl, ixT hb (j := 1) rfl rfl ⟨o, _, _, ⟨lo, rfl, ho⟩, hp1, hp2, hc, k⟩⟩⟩⟩
    · have d1 : (!decide (V.int c.1 = V.int e.1)) = true := by rw [decide_eq_false fun z => h1 (by injection z)]; rfl
      rw [d1]
      rw [if_pos h1] at k
      exact ⟨_, rfl, ixT ha (j := 0) rfl rfl ⟨_, rfl, ixT hb (j := 0) rfl rfl ⟨_, _, rfl, rfl, k⟩⟩⟩
abbrev N_Room_swap : List Str := ["self", "one", "other"]
abbrev P_Room_swap : List Str := ["self", "one", "other"]
def sp_Room_swap (K : PySem.W.Frag) : Sp := fun vs H Q E => match vs with
  | [s, a, b] => ∃ p lo lc o cs i j, s = .ref p ∧ RoomS K H p lo lc o cs ∧ a = .int ((i : Nat) : Int) ∧ b = .int ((j : Nat) : Int) ∧ i < cs.length ∧ j < cs.length ∧ ∀ H', RoomS K H' p lo lc o (swp c0 cs i j) → But [lc] H H' → Q .non H'
  | _ => False
def t_Room_swap (K : PySem.W.Frag) (E : XK) : TS := (tAsg (tTup (tCons (tOp (rIxL K) (tFl K (tVar 0) "cells") (tVar 2)) (tCons (tOp (rIxL K) (tFl K (tVar 0) "cells") (tVar 1)) tNil))) (gTup K 2 (gCons (gSub (tFl K (tVar 0) "cells") (tVar 1) rSetL) (gCons (gSub (tFl K (tVar 0) "cells") (tVar 2) rSetL) gNil))))
theorem pure_Room_swap {K : PySem.W.Frag} (T : TxtRoom K) : ∀ vs H Q E, sp_Room_swap K vs H Q E → t_Room_swap K E { nx := fun _ H' => Q .non H', rt := Q } (start N_Room_swap vs) H := by
  intro vs H Q E h
  match vs, h with
  | [s, a, b], h =>
    obtain ⟨p, lo, lc, o, cs, i, j, rfl, R, rfl, rfl, hi, hj, k⟩ := h
    obtain ⟨vs, hl, hcs⟩ := R.cells
    have hlen := hcs.length
    obtain ⟨vi, hvi, ri⟩ := P2.get' hcs (List.getElem?_eq_getElem hi)
    obtain ⟨vj, hvj, rj⟩ := P2.get' hcs (List.getElem?_eq_getElem hj)
    refine ⟨_, rfl, g_Room_cells T R.ob ⟨_, rfl, ixL hl (j := j) rfl hvj ⟨_, rfl, g_Room_cells T R.ob ⟨_, rfl, ixL hl (j := i) rfl hvi ⟨szle (by show 2 ≤ 100000; decide), fun t ht => ?_⟩⟩⟩⟩⟩
    have s1 := Rs.Same.new (o := .tup [vj, vi]) ht
    have hl1 := s1 _ _ hl
    refine ⟨t, _, rfl, SqT.of upd_same, rfl, _, _, rfl, ?_⟩
    refine ⟨_, rfl, g_Room_cells T (R.ob.same s1) ⟨_, rfl, _, _, _, i, rfl, rfl, hl1, ixN_nat (by omega), ?_⟩⟩
    have R2 : RoomOb K (upd (upd H t (.tup [vj, vi])) lc (.lst (vs.set i vj))) p (.ref lo) (.ref lc) := (R.ob.same s1).keep fun u e => up e R.plc
    refine ⟨_, _, rfl, ?_⟩
    refine ⟨_, rfl, g_Room_cells T R2 ⟨_, rfl, _, _, _, j, rfl, rfl, upd_same, ixN_nat (by rw [List.length_set]; omega), rfl, ?_⟩⟩
    have kk : But [lc] H (upd (upd (upd H t (.tup [vj, vi])) lc (.lst (vs.set i vj))) lc (.lst ((vs.set i vj).set j vi))) := (((But.refl _ H).new ht).put (by simp)).put (by simp)
    refine k _ (R.other kk ⟨_, upd_same, ?_⟩) kk
    unfold swp
    rw [getD_lt hi, getD_lt hj]
    have t := But.tupL hl kk
    exact P2.set (CellAt.st _ _ _ _ t ri) j (P2.set (CellAt.st _ _ _ _ t rj) i (Paired.tl CellAt.st t hcs))
abbrev N_Room_many_in : List Str := ["self"]
abbrev P_Room_many_in : List Str := ["self"]
def sp_Room_many_in (K : PySem.W.Frag) : Sp := fun vs H Q E => match vs with
  | [s] => ∃ p lo lc o cs, s = .ref p ∧ RoomS K H p lo lc o cs ∧ Q (.int ((cs.length : Nat) : Int)) H
  | _ => False
def t_Room_many_in (K : PySem.W.Frag) (E : XK) : TS := (tRet (tCB1 (xLen K) (tFl K (tVar 0) "cells")))
theorem pure_Room_many_in {K : PySem.W.Frag} (T : TxtRoom K) : ∀ vs H Q E, sp_Room_many_in K vs H Q E → t_Room_many_in K E { nx := fun _ H' => Q .non H', rt := Q } (start N_Room_many_in vs) H := by
  intro vs H Q E h
  match vs, h with
  | [s], h =>
    obtain ⟨p, lo, lc, o, cs, rfl, R, k⟩ := h
    obtain ⟨vs, hl, hcs⟩ := R.cells
    exact ⟨_, rfl, g_Room_cells T R.ob (lenL hl (by rw [hcs.length]) k)⟩
abbrev N_Room_first_run : List Str := ["self"]
abbrev P_Room_first_run : List Str := ["self"]
def sp_Room_first_run (K : PySem.W.Frag) : Sp := fun vs H Q E => match vs with
  | [s] => ∃ p lo lc o cs, s = .ref p ∧ RoomS K H p lo lc o cs ∧ ∀ H', Same H H' → Q (match cs with
    | [] => .non
    | c :: _ => .int c.1) H'
  | _ => False
def t_Room_first_run (K : PySem.W.Frag) (E : XK) : TS := (tRet (tIf (tTest (tOp (xNeE K) (tFl K (tVar 0) "cells") (tLst tNil))) (tOpC (rIxT K) (tOpC (rIxL K) (tFl K (tVar 0) "cells") (.int 0)) (.int 0)) (tC .non)))
theorem pure_Room_first_run {K : PySem.W.Frag} (T : TxtRoom K) : ∀ vs H Q E, sp_Room_first_run K vs H Q E → t_Room_first_run K E { nx := fun _ H' => Q .non H', rt := Q } (start N_Room_first_run vs) H := by
  intro vs H Q E h
  match vs, h with
  | [s], h =>
    obtain ⟨p, lo, lc, o, cs, rfl, R, k⟩ := h
    obtain ⟨vs, hl, hcs⟩ := R.cells
    refine ⟨_, rfl, g_Room_cells T R.ob ⟨sz0, fun t ht => neE hl ht (b := !vs.isEmpty) rfl ⟨_, rfl, ?_⟩⟩⟩
    have s1 := Rs.Same.new (o := .lst []) ht
    cases hcs with
    | nil => exact k _ s1
    | @cons v c vs' cs' hc ht' =>
      obtain ⟨w, hv, _⟩ := hc
      exact ⟨_, rfl, g_Room_cells T (R.ob.same s1) (ixL (s1 _ _ hl) (j := 0) rfl rfl (ixT (hv.mono (TupLe.same s1)) (j := 0) rfl rfl (k _ s1)))⟩
end Rs

namespace Rs
open PySem PySem.Spec PyProof.Rows L2
abbrev N_Room_put : List Str := ["self", "run", "pair", "at"]
abbrev P_Room_put : List Str := ["self", "run", "pair"]
def sp_Room_put (K : PySem.W.Frag) : Sp := fun vs H Q E => match vs with
  | [s, rv, pv] => ∃ p lo lc o cs ks r pr, s = .ref p ∧ rv = .int r ∧ RoomS K H p lo lc o cs ∧ PairAt H pv pr ∧ (∀ t ∈ o, t.1 < ks.length) ∧ isRow ks pr.2 = true ∧ (∀ c ∈ cs, isRow ks c.2.2 = true) ∧ IsHeap (cless o) c0 cs ∧ cs.length ≤ 1000 ∧
    ∀ cs' H', RoomS K H' p lo lc o cs' → IsHeap (cless o) c0 cs' → cs'.Perm ((r, pr) :: cs) → But [lc] H H' → Q .non H'
  | _ => False
def t_Room_put (K : PySem.W.Frag) (E : XK) : TS := (tSeq (tDrop (tBM K "list" rAppend (tFl K (tVar 0) "cells") (tCons (tTup (tCons (tVar 1) (tCons (tVar 2) tNil))) tNil)))
  (tSeq (tAsg (tOpC xSub (tCB1 (xLen K) (tFl K (tVar 0) "cells")) (.int 1)) (gName 3))
   (tWhile (tAnd (tTest (tOpC xGt (tVar 3) (.int 0))) (tB (tMeth (He.ga K "Room") "is_less" (sp_Room_is_less K) [] E (tVar 0) (tCons (tOp (rIxL K) (tFl K (tVar 0) "cells") (tVar 3)) (tCons (tOp (rIxL K) (tFl K (tVar 0) "cells") (tOpC xDiv (tOpC xSub (tVar 3) (.int 1)) (.int 2))) tNil))))) 
      (tSeq (tDrop (tMeth (He.ga K "Room") "swap" (sp_Room_swap K) [] E (tVar 0) (tCons (tVar 3) (tCons (tOpC xDiv (tOpC xSub (tVar 3) (.int 1)) (.int 2)) tNil))))
      (tAsg (tOpC xDiv (tOpC xSub (tVar 3) (.int 1)) (.int 2)) (gName 3))))))
theorem tp_one {v w : V} {H : Hp} {t : Addr} (h : H t = some (.tup [v, w])) : IsTp H (.ref t) [v, w] := ⟨t, rfl, h⟩
theorem pure_Room_put {K : PySem.W.Frag} (T : TxtRoom K) : ∀ vs H Q E, sp_Room_put K vs H Q E → t_Room_put K E { nx := fun _ H' => Q .non H', rt := Q } (start N_Room_put vs) H := by
  intro vs H Q E h
  match vs, h with
  | [s, rv, pv], h =>
    obtain ⟨p, lo, lc, o, cs, ks, r, pr, rfl, rfl, R, hpr, hcol, hrow, hrows, hheap, hlen, k⟩ := h
    obtain ⟨vs, hl, hcs⟩ := R.cells
    have hvl := hcs.length
    refine ⟨_, rfl, g_Room_cells T R.ob ⟨.inl ⟨rfl, _, SqL.of hl⟩, _, rfl, _, rfl, szle (by show 2 ≤ 100000; decide), fun t ht => ?_⟩⟩
    have s1 := Rs.Same.new (o := .tup [.int r, pv]) ht
    have hl1 := s1 _ _ hl
    refine ⟨_, _, _, rfl, rfl, hl1, szlt (by omega), ?_⟩
    have kk : But [lc] H (upd (upd H t (.tup [.int r, pv])) lc (.lst (vs ++ [.ref t]))) := ((But.refl _ H).new ht).put (by simp)
    have tt := But.tupL hl kk
    have ntl := ne_of_none hl ht
    have hc2 : Lst CellAt (upd (upd H t (.tup [.int r, pv])) lc (.lst (vs ++ [.ref t]))) lc (cs ++ [(r, pr)]) := ⟨_, upd_same, P2.app (Paired.tl CellAt.st tt hcs) (P2.one ⟨pv, tp_one (by rw [upd_ne ntl.symm]; exact upd_same), PairAt.st _ _ _ _ tt hpr⟩)⟩
    have R2 := R.other kk hc2
    obtain ⟨vs2, hl2, hcs2⟩ := hc2
    have hvl2 := hcs2.length
    rw [List.length_append, List.length_singleton] at hvl2
    refine ⟨_, rfl, g_Room_cells T R2.ob (lenL hl2 rfl ⟨_, _, rfl, rfl, ?_⟩)⟩
    have e1 : ((vs2.length : Int) - 1) = ((cs.length : Nat) : Int) := by omega
    dsimp only
    rw [e1]
    refine ⟨fun m σ H' => ∃ (a : Nat) (cs' : List Cell), m = a ∧ σ = [some (.ref p), some (.int r), some pv, some (.int (a : Int))] ∧ RoomS K H' p lo lc o cs' ∧ HeapUp (cless o) c0 cs' a ∧ a < cs'.length ∧ cs'.Perm (cs ++ [(r, pr)]) ∧ But [lc] H H',
      ⟨_, cs.length, _, rfl, rfl, R2, up_start hheap, by simp, .refl _, kk⟩, ?_⟩
    rintro a σ H' ⟨_, cs', rfl, rfl, R', hup, ha, hp', k'⟩
    have okc : ∀ c ∈ cs', isRow ks c.2.2 = true := fun c hc => by
      rcases List.mem_append.mp (hp'.mem_iff.mp hc) with h | h
      · exact hrows c h
      · rw [List.mem_singleton.mp h]; exact hrow
    have fin : IsHeap (cless o) c0 cs' → Q .non H' := fun hh => k cs' H' R' hh (hp'.trans (List.perm_append_comm (l₁ := cs) (l₂ := [(r, pr)]))) k'
    obtain ⟨dx, hob⟩ := R'.ob
    obtain ⟨vs', hl', hcs'⟩ := R'.cells
    refine ⟨_, rfl, _, _, rfl, rfl, _, rfl, ?_⟩
    by_cases h0 : (0 : Int) < (a : Int)
    · rw [decide_eq_true h0]
      have hpar : (a - 1) / 2 < cs'.length := by omega
      have e2 : ((a : Int) - 1) / 2 = (((a - 1) / 2 : Nat) : Int) := by omega
      obtain ⟨va, hva, ra⟩ := P2.get' hcs' (List.getElem?_eq_getElem ha)
      obtain ⟨vp, hvp, rp⟩ := P2.get' hcs' (List.getElem?_eq_getElem hpar)
      refine ⟨_, rfl, p, dx, _, rfl, hob, no_Room_is_less, _, rfl, g_Room_cells T R'.ob ⟨_, rfl, ixL hl' rfl hva ⟨_, rfl, g_Room_cells T R'.ob ⟨_, rfl, _, _, rfl, rfl, _, _, rfl, rfl, div_ok (by decide) (by decide), ixL hl' e2 hvp ?_⟩⟩⟩⟩
      refine ⟨p, lo, _, o, _, _, rfl, R'.ob, R'.ord, ra, rp, cmp_of hcol (okc _ (List.getElem_mem ha)) (okc _ (List.getElem_mem hpar)), _, rfl, ?_⟩
      have g1 : cs'[a] = cs'.getD a c0 := (getD_lt ha).symm
      have g2 : cs'[(a - 1) / 2] = cs'.getD ((a - 1) / 2) c0 := (getD_lt hpar).symm
      rw [g1, g2]
      cases hless : cless o (cs'.getD a c0) (cs'.getD ((a - 1) / 2) c0) with
      | false => exact fin (up_end hup (.inr hless))
      | true =>
        refine ⟨fun σ2 H2 => ∃ (a2 : Nat) (cs2 : List Cell), a2 < a ∧ σ2 = [some (.ref p), some (.int r), some pv, some (.int (a2 : Int))] ∧ RoomS K H2 p lo lc o cs2 ∧ HeapUp (cless o) c0 cs2 a2 ∧ a2 < cs2.length ∧ cs2.Perm (cs ++ [(r, pr)]) ∧ But [lc] H H2, ?_, ?_⟩
        · rintro σ2 H2 ⟨a2, cs2, q1, q2⟩
          exact ⟨a2, q1, a2, cs2, rfl, q2⟩
        · refine ⟨_, rfl, p, dx, _, rfl, hob, no_Room_swap, _, rfl, _, rfl, _, _, rfl, rfl, _, _, rfl, rfl, div_ok (by decide) (by decide), ?_⟩
          refine ⟨p, lo, lc, o, cs', a, (a - 1) / 2, rfl, R', rfl, by dsimp only; rw [e2], ha, hpar, fun H3 R3 k3 => ?_⟩
          refine ⟨_, rfl, _, _, rfl, rfl, _, _, rfl, rfl, div_ok (by decide) (by decide), (a - 1) / 2, _, by omega, by dsimp only; rw [e2] <;> rfl, R3, up_turn (cless_strict hcol) okc hup (by omega) ha hless, by rw [swp_len]; exact hpar, (swp_perm ha hpar).trans hp', k'.trans k3⟩
    · rw [decide_eq_false h0]
      exact fin (up_end hup (.inl (by omega)))
abbrev N_Room_lesser : List Str := ["self", "at", "some", "place"]
abbrev P_Room_lesser : List Str := ["self", "at"]
/-- what lesser tells: the least of the two cells below -/
def LesserIs (o : Ord) (cs : List Cell) (a : Nat) (v : V) : Prop :=
  (v = .non ∧ cs.length ≤ 2 * a + 1) ∨ ∃ b : Nat, v = .int (b : Int) ∧ b < cs.length ∧ 0 < b ∧ (b - 1) / 2 = a ∧ ∀ c, 0 < c → c < cs.length → (c - 1) / 2 = a → cless o (cs.getD c c0) (cs.getD b c0) = false
def sp_Room_lesser (K : PySem.W.Frag) : Sp := fun vs H Q E => match vs with
  | [s, av] => ∃ p lo lc o cs ks a, s = .ref p ∧ av = .int ((a : Nat) : Int) ∧ RoomS K H p lo lc o cs ∧ (∀ t ∈ o, t.1 < ks.length) ∧ (∀ c ∈ cs, isRow ks c.2.2 = true) ∧ cs.length ≤ 1000 ∧
    ∀ v H', LesserIs o cs a v → Same H H' → Q v H'
  | _ => False
def t_Room_lesser (K : PySem.W.Frag) (E : XK) : TS := (tSeq (tAsg (tLc (iTup K (tTup (tCons (tOpC xAdd (tOpD xMul (.int 2) (tVar 1)) (.int 1)) (tCons (tOpC xAdd (tOpD xMul (.int 2) (tVar 1)) (.int 2)) tNil)))) (gName 3) (tTest (tOp xLt (tVar 3) (tCB1 (xLen K) (tFl K (tVar 0) "cells")))) (tVar 3) [3]) (gName 2))
  (tSeq (tIfS (tAnd (tTest (tOpC rEq (tCB1 (xLen K) (tVar 2)) (.int 2))) (tB (tMeth (He.ga K "Room") "is_less" (sp_Room_is_less K) [] E (tVar 0) (tCons (tOp (rIxL K) (tFl K (tVar 0) "cells") (tOpC (rIxL K) (tVar 2) (.int 1))) (tCons (tOp (rIxL K) (tFl K (tVar 0) "cells") (tOpC (rIxL K) (tVar 2) (.int 0))) tNil))))) (tRet (tOpC (rIxL K) (tVar 2) (.int 1))) tNext)
   (tRet (tIf (tTest (tOp (xNeE K) (tVar 2) (tLst tNil))) (tOpC (rIxL K) (tVar 2) (.int 0)) (tC .non)))))
theorem pure_Room_lesser {K : PySem.W.Frag} (T : TxtRoom K) : ∀ vs H Q E, sp_Room_lesser K vs H Q E → t_Room_lesser K E { nx := fun _ H' => Q .non H', rt := Q } (start N_Room_lesser vs) H := by
  intro vs H Q E h
  match vs, h with
  | [s, av], h =>
    obtain ⟨p, lo, lc, o, cs, ks, a, rfl, rfl, R, hcol, hrows, hlen, k⟩ := h
    obtain ⟨vs, hl, hcs⟩ := R.cells
    have hvl := hcs.length
    obtain ⟨dx, hob⟩ := R.ob
    refine ⟨_, rfl, _, _, rfl, rfl, .inl ⟨by decide, by decide⟩, _, _, rfl, rfl, _, rfl, _, _, rfl, rfl, .inl ⟨by decide, by decide⟩, _, _, rfl, rfl, szle (by show 2 ≤ 100000; decide), fun t ht => ⟨t, rfl, ⟨_, SqT.of upd_same⟩, fun D hD => ?_⟩⟩
    dsimp only
    have s1 := Rs.Same.new (o := .tup [.int (2 * (a : Int) + 1), .int (2 * (a : Int) + 2)]) ht
    have st1 : upd H t (.tup [.int (2 * (a : Int) + 1), .int (2 * (a : Int) + 2)]) t = some (.tup [.int (2 * (a : Int) + 1), .int (2 * (a : Int) + 2)]) := upd_same
    have sD := Rs.Same.new (o := .lst []) hD
    refine lc_tup (K := K) (a := t) (xs := [.int (2 * (a : Int) + 1), .int (2 * (a : Int) + 2)]) (fun j H2 => H2 D = some (.lst ((([2 * a + 1, 2 * a + 2].take j).filter fun n => decide (n < cs.length)).map fun (n : Nat) => V.int (n : Int))) ∧ Same (upd H t (.tup [.int (2 * (a : Int) + 1), .int (2 * (a : Int) + 2)])) H2)
      ⟨upd_same, sD⟩ ?_ ?_ ?_
    · rintro j H2 _ ⟨_, s⟩
      exact SqT.of (s _ _ st1)
    · rintro j v H2 hj ⟨hd, s⟩
      have hj2 : j < 2 := (List.getElem?_eq_some_iff.mp hj).1
      obtain ⟨n, en, hn⟩ : ∃ n : Nat, v = .int (n : Int) ∧ [2 * a + 1, 2 * a + 2][j]? = some n := by
        rcases (by omega : j = 0 ∨ j = 1) with rfl | rfl
        · exact ⟨2 * a + 1, by simp at hj; rw [← hj]; congr 1, rfl⟩
        · exact ⟨2 * a + 2, by simp at hj; rw [← hj]; congr 1, rfl⟩
      subst en
      refine ⟨rfl, _, rfl, _, rfl, g_Room_cells T (R.ob.same (s1.trans s)) (lenL ((s1.trans s) _ _ hl) rfl ⟨_, _, rfl, rfl, _, rfl, ?_⟩)⟩
      have lf : ((([2 * a + 1, 2 * a + 2].take j).filter fun n => decide (n < cs.length)).map fun (n : Nat) => V.int (n : Int)).length ≤ 2 := by
        rw [List.length_map]
        have := List.length_filter_le (fun n => decide (n < cs.length)) ([2 * a + 1, 2 * a + 2].take j)
        rw [List.length_take] at this
        simp at this
        omega
      by_cases hlt : (n : Int) < (vs.length : Int)
      · rw [decide_eq_true hlt]
        refine ⟨_, rfl, _, hd, szlt (by omega), ?_, Rs.Same.mut s hD⟩
        have ef : ([n].filter fun n => decide (n < cs.length)) = [n] := by rw [List.filter_cons, decide_eq_true (by omega)] <;> rfl
        rw [upd_same, List.take_succ, hn, List.filter_append]
        show some (HO.lst _) = some (HO.lst (List.map _ (_ ++ ([n].filter fun n => decide (n < cs.length)))))
        rw [ef, List.map_append] <;> rfl
      · rw [decide_eq_false hlt]
        have ef : ([n].filter fun n => decide (n < cs.length)) = [] := by rw [List.filter_cons, decide_eq_false (by omega)] <;> rfl
        refine ⟨?_, s⟩
        rw [hd, List.take_succ, hn, List.filter_append]
        show _ = some (HO.lst (List.map _ (_ ++ ([n].filter fun n => decide (n < cs.length)))))
        rw [ef, List.append_nil]
    · rintro H2 ⟨hd, s⟩
      have s2 : Same H H2 := s1.trans s
      have hl2 := s2 _ _ hl
      have R2 := R.same s2
      have hob2 := s2 _ _ hob
      rw [show [V.int (2 * (a : Int) + 1), V.int (2 * (a : Int) + 2)].length = 2 from rfl] at hd
      have kids : ∀ c, 0 < c → (c - 1) / 2 = a → c = 2 * a + 1 ∨ c = 2 * a + 2 := fun c _ _ => by omega
      refine ⟨_, rfl, lenL hd rfl ⟨rfl, _, rfl, ?_⟩⟩
      have S := cless_strict (ks := ks) hcol
      have last : ∀ (b : Nat) (H3 : Hp), Same H H3 → H3 D = some (.lst [.int (b : Int)]) ∨ (∃ w, H3 D = some (.lst [.int (b : Int), w])) → b < cs.length → 0 < b → (b - 1) / 2 = a → (∀ c, 0 < c → c < cs.length → (c - 1) / 2 = a → cless o (cs.getD c c0) (cs.getD b c0) = false) →
          (tRet (tIf (tTest (tOp (xNeE K) (tVar 2) (tLst tNil))) (tOpC (rIxL K) (tVar 2) (.int 0)) (tC .non))) { nx := fun _ H' => Q .non H', rt := Q } [some (.ref p), some (.int (a : Int)), some (.ref D), none] H3 := fun b H3 s3 hd3 hb hb0 hba hmin => by
        obtain ⟨xs, hx, hx0⟩ : ∃ xs, H3 D = some (.lst xs) ∧ xs[0]? = some (.int (b : Int)) := by
          rcases hd3 with h | ⟨w, h⟩
          · exact ⟨_, h, rfl⟩
          · exact ⟨_, h, rfl⟩
        refine ⟨_, rfl, sz0, fun q hq => neE hx hq (b := true) ?_ ⟨_, rfl, _, rfl, ixL (un hx hq) (j := 0) rfl hx0 (k _ _ (.inr ⟨b, rfl, hb, hb0, hba, hmin⟩) (s3.trans (Rs.Same.new hq)))⟩⟩
        cases xs with
        | nil => simp at hx0
        | cons => rfl
      by_cases h1 : 2 * a + 1 < cs.length
      · by_cases h2 : 2 * a + 2 < cs.length
        · have ef : (([2 * a + 1, 2 * a + 2].take 2).filter fun n => decide (n < cs.length)) = [2 * a + 1, 2 * a + 2] := by
            show ([2 * a + 1, 2 * a + 2].filter fun n => decide (n < cs.length)) = _
            rw [List.filter_cons, List.filter_cons, decide_eq_true h1, decide_eq_true h2] <;> rfl
          rw [ef] at hd ⊢
          have e2 : decide (V.int ((([2 * a + 1, 2 * a + 2].map fun (n : Nat) => V.int (n : Int)).length : Nat) : Int) = V.int 2) = true := decide_eq_true rfl
          rw [e2]
          obtain ⟨v1, hv1, r1⟩ := P2.get' hcs (List.getElem?_eq_getElem h1)
          obtain ⟨v2, hv2, r2⟩ := P2.get' hcs (List.getElem?_eq_getElem h2)
          have tH := TupLe.same s2
          refine ⟨_, rfl, p, dx, _, rfl, hob2, no_Room_is_less, _, rfl, g_Room_cells T R2.ob ⟨_, rfl, ixL hd (j := 1) rfl rfl (ixL hl2 rfl hv2 ⟨_, rfl, g_Room_cells T R2.ob ⟨_, rfl, ixL hd (j := 0) rfl rfl (ixL hl2 rfl hv1 ?_)⟩⟩)⟩⟩
          refine ⟨p, lo, _, o, _, _, rfl, R2.ob, R2.ord, CellAt.st _ _ _ _ tH r2, CellAt.st _ _ _ _ tH r1, cmp_of hcol (hrows _ (List.getElem_mem h2)) (hrows _ (List.getElem_mem h1)), _, rfl, ?_⟩
          have g1 : cs[2 * a + 1] = cs.getD (2 * a + 1) c0 := (getD_lt h1).symm
          have g2 : cs[2 * a + 2] = cs.getD (2 * a + 2) c0 := (getD_lt h2).symm
          rw [g1, g2]
          cases hless : cless o (cs.getD (2 * a + 2) c0) (cs.getD (2 * a + 1) c0) with
          | true =>
            refine ⟨_, rfl, ixL hd (j := 1) rfl rfl (k _ _ (.inr ⟨2 * a + 2, rfl, h2, by omega, by omega, fun c c1 c2 c3 => ?_⟩) s2)⟩
            rcases kids c c1 c3 with rfl | rfl
            · exact S.asym _ _ (hrows _ (getD_mem h2)) (hrows _ (getD_mem h1)) hless
            · exact cless_irrefl o _
          | false =>
            refine last (2 * a + 1) H2 s2 (.inr ⟨_, hd⟩) h1 (by omega) (by omega) fun c c1 c2 c3 => ?_
            rcases kids c c1 c3 with rfl | rfl
            · exact cless_irrefl o _
            · exact hless
        · have ef : (([2 * a + 1, 2 * a + 2].take 2).filter fun n => decide (n < cs.length)) = [2 * a + 1] := by
            show ([2 * a + 1, 2 * a + 2].filter fun n => decide (n < cs.length)) = _
            rw [List.filter_cons, List.filter_cons, decide_eq_true h1, decide_eq_false h2] <;> rfl
          rw [ef] at hd ⊢
          have e2 : decide (V.int ((([2 * a + 1].map fun (n : Nat) => V.int (n : Int)).length : Nat) : Int) = V.int 2) = false := decide_eq_false (by intro z; injection z with z; exact absurd z (by show ¬ ((1 : Nat) : Int) = 2; decide))
          rw [e2]
          refine last (2 * a + 1) H2 s2 (.inl hd) h1 (by omega) (by omega) fun c c1 c2 c3 => ?_
          rcases kids c c1 c3 with rfl | rfl
          · exact cless_irrefl o _
          · omega
      · have ef : (([2 * a + 1, 2 * a + 2].take 2).filter fun n => decide (n < cs.length)) = [] := by
          show ([2 * a + 1, 2 * a + 2].filter fun n => decide (n < cs.length)) = _
          rw [List.filter_cons, List.filter_cons, decide_eq_false h1, decide_eq_false (by omega)] <;> rfl
        rw [ef] at hd ⊢
        have e2 : decide (V.int (((([] : List Nat).map fun (n : Nat) => V.int (n : Int)).length : Nat) : Int) = V.int 2) = false := by decide
        rw [e2]
        exact ⟨_, rfl, sz0, fun q hq => neE hd hq (b := false) rfl ⟨_, rfl, k _ _ (.inl ⟨rfl, by omega⟩) (s2.trans (Rs.Same.new hq))⟩⟩
abbrev N_Room_take : List Str := ["self", "found", "at", "below"]
abbrev P_Room_take : List Str := ["self"]
def sp_Room_take (K : PySem.W.Frag) : Sp := fun vs H Q E => match vs with
  | [s] => ∃ p lo lc o cs ks, s = .ref p ∧ RoomS K H p lo lc o cs ∧ (∀ t ∈ o, t.1 < ks.length) ∧ (∀ c ∈ cs, isRow ks c.2.2 = true) ∧ IsHeap (cless o) c0 cs ∧ 0 < cs.length ∧ cs.length ≤ 1000 ∧
    ∀ cs' v H', RoomS K H' p lo lc o cs' → IsHeap (cless o) c0 cs' → (cs.getD 0 c0 :: cs').Perm cs → CellAt H' v (cs.getD 0 c0) → But [lc] H H' → Q v H'
  | _ => False
def t_Room_take (K : PySem.W.Frag) (E : XK) : TS := (tSeq (tDrop (tMeth (He.ga K "Room") "swap" (sp_Room_swap K) [] E (tVar 0) (tConsC (.int 0) (tCons (tOpC xSub (tCB1 (xLen K) (tFl K (tVar 0) "cells")) (.int 1)) tNil))))
  (tSeq (tAsg (tBM0 K "list" rPop (tFl K (tVar 0) "cells")) (gName 1))
   (tSeq (tAsg (tC (.int 0)) (gName 2))
    (tSeq (tAsg (tMeth (He.ga K "Room") "lesser" (sp_Room_lesser K) [] E (tVar 0) (tCons (tVar 2) tNil)) (gName 3))
     (tSeq (tWhile (tAnd (tTest (tOpC rNotN (tVar 3) .non)) (tB (tMeth (He.ga K "Room") "is_less" (sp_Room_is_less K) [] E (tVar 0) (tCons (tOp (rIxL K) (tFl K (tVar 0) "cells") (tVar 3)) (tCons (tOp (rIxL K) (tFl K (tVar 0) "cells") (tVar 2)) tNil))))) 
        (tSeq (tDrop (tMeth (He.ga K "Room") "swap" (sp_Room_swap K) [] E (tVar 0) (tCons (tVar 2) (tCons (tVar 3) tNil))))
        (tSeq (tAsg (tVar 3) (gName 2))
         (tAsg (tMeth (He.ga K "Room") "lesser" (sp_Room_lesser K) [] E (tVar 0) (tCons (tVar 2) tNil)) (gName 3)))))
      (tRet (tVar 1)))))))
theorem pure_Room_take {K : PySem.W.Frag} (T : TxtRoom K) : ∀ vs H Q E, sp_Room_take K vs H Q E → t_Room_take K E { nx := fun _ H' => Q .non H', rt := Q } (start N_Room_take vs) H := by
  intro vs H Q E h
  match vs, h with
  | [s], h =>
    obtain ⟨p, lo, lc, o, cs, ks, rfl, R, hcol, hrows, hheap, hpos, hlen, k⟩ := h
    obtain ⟨vs, hl, hcs⟩ := R.cells
    have hvl := hcs.length
    obtain ⟨dx, hob⟩ := R.ob
    have en : ((vs.length : Int) - 1) = ((cs.length - 1 : Nat) : Int) := by omega
    refine ⟨_, rfl, p, dx, _, rfl, hob, no_Room_swap, _, rfl, g_Room_cells T R.ob (lenL hl rfl ⟨_, _, rfl, rfl, ?_⟩)⟩
    refine ⟨p, lo, lc, o, cs, 0, cs.length - 1, rfl, R, rfl, by dsimp only; rw [en], hpos, by omega, fun H1 R1 k1 => ?_⟩
    obtain ⟨vs1, hl1, hcs1⟩ := R1.cells
    have hvl1 := hcs1.length
    rw [swp_len] at hvl1
    have hlast : (swp c0 cs 0 (cs.length - 1))[cs.length - 1]? = some (cs.getD 0 c0) := by
      unfold swp
      rw [List.getElem?_set_self (by rw [List.length_set]; omega)]
    obtain ⟨v, hv, rv⟩ := P2.get' hcs1 hlast
    refine ⟨_, rfl, g_Room_cells T R1.ob ⟨.inl ⟨rfl, _, SqL.of hl1⟩, _, _, v, rfl, rfl, hl1, by rw [hvl1]; exact hv, ?_⟩⟩
    have k2 : But [lc] H1 (upd H1 lc (.lst vs1.dropLast)) := (But.refl _ H1).put (by simp)
    have dl : ∀ {α β : Type} {F : α → β → Prop} {l : List α} {m : List β}, Paired F l m → Paired F l.dropLast m.dropLast := fun h => by
      rw [List.dropLast_eq_take, List.dropLast_eq_take, ← h.length]
      exact P2.take _ h
    have t2 := But.tupL hl1 k2
    have R2 := R1.other k2 (cs' := (swp c0 cs 0 (cs.length - 1)).dropLast) ⟨_, upd_same, Paired.tl CellAt.st t2 (dl hcs1)⟩
    have rv2 := CellAt.st _ _ _ _ t2 rv
    -- what is left, and what goes
    have hperm : (cs.getD 0 c0 :: (swp c0 cs 0 (cs.length - 1)).dropLast).Perm cs := by
      have hne : swp c0 cs 0 (cs.length - 1) ≠ [] := by intro z; have := congrArg List.length z; rw [swp_len, List.length_nil] at this; omega
      have e1 := List.dropLast_concat_getLast hne
      have e2 : (swp c0 cs 0 (cs.length - 1)).getLast hne = cs.getD 0 c0 := by
        rw [List.getLast_eq_getElem]
        have := hlast
        rw [List.getElem?_eq_getElem (by rw [swp_len]; omega)] at this
        have z := Option.some.inj this
        rw [← z]
        congr 1
        rw [swp_len]
      rw [e2] at e1
      refine List.Perm.trans ?_ (swp_perm (d := c0) hpos (by omega : cs.length - 1 < cs.length))
      rw [← e1]
      refine List.Perm.trans (List.Perm.of_eq ?_) (List.perm_append_comm (l₁ := [cs.getD 0 c0]) (l₂ := (swp c0 cs 0 (cs.length - 1)).dropLast))
      rw [e1]
      rfl
    have hok : ∀ cs' : List Cell, cs'.Perm (swp c0 cs 0 (cs.length - 1)).dropLast → ∀ c ∈ cs', isRow ks c.2.2 = true := fun cs' pm c hc => hrows c (hperm.mem_iff.mp (List.mem_cons_of_mem _ (pm.mem_iff.mp hc)))
    have hl3 : (swp c0 cs 0 (cs.length - 1)).dropLast.length = cs.length - 1 := by rw [List.length_dropLast, swp_len]
    obtain ⟨dx2, hob2⟩ := R2.ob
    refine ⟨_, rfl, p, dx2, _, rfl, hob2, no_Room_lesser, _, rfl, p, lo, lc, o, _, ks, 0, rfl, rfl, R2, hcol, hok _ (.refl _), by rw [hl3]; omega, fun below H3 hlow s3 => ?_⟩
    refine ⟨fun m σ H' => ∃ (a : Nat) (below : V) (cs' : List Cell), m = cs.length - a ∧ σ = [some (.ref p), some v, some (.int (a : Int)), some below] ∧ RoomS K H' p lo lc o cs' ∧ HeapDown (cless o) c0 cs' a ∧ LesserIs o cs' a below ∧ cs'.Perm (swp c0 cs 0 (cs.length - 1)).dropLast ∧ But [lc] H H' ∧ CellAt H' v (cs.getD 0 c0) ∧ (a < cs'.length ∨ a = 0),
      ⟨_, 0, below, _, rfl, rfl, R2.same s3, down_start hheap hpos, hlow, .refl _, (k1.trans k2).trans (But.same s3), CellAt.st _ _ _ _ (TupLe.same s3) rv2, .inr rfl⟩, ?_⟩
    rintro m σ H' ⟨a, below, cs', rfl, rfl, R', hdown, hlow, hpm, k', rv', ha⟩
    have S := cless_strict (ks := ks) hcol
    have okc := hok cs' hpm
    have hl' := hpm.length_eq
    rw [hl3] at hl'
    have fin : IsHeap (cless o) c0 cs' → (tRet (tVar 1)) { nx := fun _ H' => Q .non H', rt := Q } [some (.ref p), some v, some (.int (a : Int)), some below] H' := fun hh => ⟨_, rfl, k cs' v H' R' hh ((hpm.cons _).trans hperm) rv' k'⟩
    refine ⟨_, rfl, rfl, _, rfl, ?_⟩
    rcases hlow with ⟨rfl, hnone⟩ | ⟨b, rfl, hb, hb0, hba, hmin⟩
    · have e1 : (!decide (V.non = V.non)) = false := rfl
      rw [e1]
      exact fin (down_end S okc hdown fun c c1 c2 c3 => by omega)
    · have e1 : (!decide (V.int (b : Int) = V.non)) = true := rfl
      rw [e1]
      have hal : a < cs'.length := by omega
      obtain ⟨dx', hob'⟩ := R'.ob
      obtain ⟨vs', hl', hcs'⟩ := R'.cells
      obtain ⟨vb, hvb, rb⟩ := P2.get' hcs' (List.getElem?_eq_getElem hb)
      obtain ⟨va, hva, ra⟩ := P2.get' hcs' (List.getElem?_eq_getElem hal)
      refine ⟨_, rfl, p, dx', _, rfl, hob', no_Room_is_less, _, rfl, g_Room_cells T R'.ob ⟨_, rfl, ixL hl' rfl hvb ⟨_, rfl, g_Room_cells T R'.ob ⟨_, rfl, ixL hl' rfl hva ?_⟩⟩⟩⟩
      refine ⟨p, lo, _, o, _, _, rfl, R'.ob, R'.ord, rb, ra, cmp_of hcol (okc _ (List.getElem_mem hb)) (okc _ (List.getElem_mem hal)), _, rfl, ?_⟩
      have g1 : cs'[b] = cs'.getD b c0 := (getD_lt hb).symm
      have g2 : cs'[a] = cs'.getD a c0 := (getD_lt hal).symm
      rw [g1, g2]
      cases hless : cless o (cs'.getD b c0) (cs'.getD a c0) with
      | false => exact fin (down_end S okc hdown fun c c1 c2 c3 => ⟨b, hb, hmin c c1 c2 c3, hless⟩)
      | true =>
        refine ⟨fun σ2 H2 => ∃ (a2 : Nat) (below2 : V) (cs2 : List Cell), cs.length - a2 < cs.length - a ∧ σ2 = [some (.ref p), some v, some (.int (a2 : Int)), some below2] ∧ RoomS K H2 p lo lc o cs2 ∧ HeapDown (cless o) c0 cs2 a2 ∧ LesserIs o cs2 a2 below2 ∧ cs2.Perm (swp c0 cs 0 (cs.length - 1)).dropLast ∧ But [lc] H H2 ∧ CellAt H2 v (cs.getD 0 c0) ∧ (a2 < cs2.length ∨ a2 = 0), ?_, ?_⟩
        · rintro σ2 H2 ⟨a2, below2, cs2, q1, q2⟩
          exact ⟨_, q1, a2, below2, cs2, rfl, q2⟩
        · refine ⟨_, rfl, p, dx', _, rfl, hob', no_Room_swap, _, rfl, _, rfl, p, lo, lc, o, cs', a, b, rfl, R', rfl, rfl, hal, hb, fun H4 R4 k4 => ?_⟩
          obtain ⟨dx4, hob4⟩ := R4.ob
          have pm4 : (swp c0 cs' a b).Perm (swp c0 cs 0 (cs.length - 1)).dropLast := (swp_perm hal hb).trans hpm
          refine ⟨_, rfl, _, rfl, p, dx4, _, rfl, hob4, no_Room_lesser, _, rfl, p, lo, lc, o, _, ks, b, rfl, rfl, R4, hcol, hok _ pm4, by rw [swp_len]; omega, fun below2 H5 hlow2 s5 => ?_⟩
          refine ⟨b, below2, _, by omega, rfl, R4.same s5, down_turn S okc hdown hb0 hb hba hmin hless, hlow2, pm4, (k'.trans k4).trans (But.same s5), CellAt.st _ _ _ _ ((But.tupL hl' k4).trans (TupLe.same s5)) rv', .inl (by rw [swp_len]; exact hb)⟩
end Rs

namespace Rs
open PySem PySem.Spec PyProof.Rows L2
/-! ### a maker of runs as it stands -/
def OptAt : Rel (Option Pr) := fun H v q => match q with
  | none => v = .non
  | some p => PairAt H v p
theorem OptAt.st : Stable OptAt := fun H H' v q t h => match q, h with
  | none, h => h
  | some p, h => PairAt.st H H' v p t h
structure MakerS (K : PySem.W.Frag) (H : Hp) (p lo pr lc : Addr) (o : Ord) (size : Int) (cs : List Cell) (run : Int) (last : Option Pr) : Prop where
  ob : ∃ vl, MakerOb K H p (.ref lo) (.int size) (.ref pr) (.int run) vl ∧ OptAt H vl last
  room : RoomS K H pr lo lc o cs
  ne : p ≠ pr
theorem MakerOb.keep {K : PySem.W.Frag} {H H' : Hp} {p : Addr} {x0 x1 x2 x3 x4 : V} (h : MakerOb K H p x0 x1 x2 x3 x4) (k : ∀ o, H p = some o → H' p = some o) : MakerOb K H' p x0 x1 x2 x3 x4 := let ⟨dx, e⟩ := h; ⟨dx, k _ e⟩
theorem MakerS.same {K : PySem.W.Frag} {H H' : Hp} {p lo pr lc : Addr} {o : Ord} {size : Int} {cs : List Cell} {run : Int} {last : Option Pr} (h : MakerS K H p lo pr lc o size cs run last) (s : Same H H') : MakerS K H' p lo pr lc o size cs run last := by
  obtain ⟨vl, ob, hl⟩ := h.ob
  exact ⟨⟨vl, ob.keep fun u => s p u, OptAt.st _ _ _ _ (TupLe.same s) hl⟩, h.room.same s, h.ne⟩
theorem MakerS.plc {K : PySem.W.Frag} {H : Hp} {p lo pr lc : Addr} {o : Ord} {size : Int} {cs : List Cell} {run : Int} {last : Option Pr} (h : MakerS K H p lo pr lc o size cs run last) : p ≠ lc ∧ p ≠ lo := by
  obtain ⟨vl, ⟨dx, e⟩, _⟩ := h.ob
  obtain ⟨vs, e2, _⟩ := h.room.cells
  obtain ⟨os, e3, _⟩ := h.room.ord
  exact ⟨ne_of e e2 (by intro z; cases z), ne_of e e3 (by intro z; cases z)⟩
theorem MakerS.tup {K : PySem.W.Frag} {H H' : Hp} {p lo pr lc : Addr} {o : Ord} {size : Int} {cs : List Cell} {run : Int} {last : Option Pr} (h : MakerS K H p lo pr lc o size cs run last) (k : But [p, lc] H H') : TupLe H H' := fun c xs e => by
  obtain ⟨vl, ⟨dx, e1⟩, _⟩ := h.ob
  obtain ⟨vs, e2, _⟩ := h.room.cells
  exact k c _ e (nn (ne_of e e1 (by intro z; cases z)) (ne_of e e2 (by intro z; cases z)))
/-- the room has changed -/
theorem MakerS.roomed {K : PySem.W.Frag} {H H' : Hp} {p lo pr lc : Addr} {o : Ord} {size : Int} {cs cs' : List Cell} {run : Int} {last : Option Pr} (h : MakerS K H p lo pr lc o size cs run last) (k : But [lc] H H') (R : RoomS K H' pr lo lc o cs') : MakerS K H' p lo pr lc o size cs' run last := by
  obtain ⟨vl, ob, hl⟩ := h.ob
  exact ⟨⟨vl, ob.keep fun u e => k _ _ e (ne1 h.plc.1), OptAt.st _ _ _ _ (h.tup (k.wide fun x hx => by rw [List.mem_singleton] at hx; subst hx; simp)) hl⟩, R, h.ne⟩
/-- the maker's object has changed -/
theorem MakerS.obbed {K : PySem.W.Frag} {H : Hp} {p lo pr lc : Addr} {o : Ord} {size : Int} {cs : List Cell} {run run' : Int} {last last' : Option Pr} {dx : Addr} {vl : V} (h : MakerS K H p lo pr lc o size cs run last) (hv : OptAt H vl last') :
    MakerS K (upd H p (.ins (He.ga K "Maker") dx (f_Maker (.ref lo) (.int size) (.ref pr) (.int run') vl))) p lo pr lc o size cs run' last' := by
  have kk : But [p] H (upd H p (.ins (He.ga K "Maker") dx (f_Maker (.ref lo) (.int size) (.ref pr) (.int run') vl))) := (But.refl _ H).put (by simp)
  have t := h.tup (kk.wide fun x hx => by rw [List.mem_singleton] at hx; subst hx; simp)
  exact ⟨⟨vl, ⟨dx, upd_same⟩, OptAt.st _ _ _ _ t hv⟩, ⟨h.room.ob.keep fun u e => up e (Ne.symm h.ne), h.room.ord.keep TurnAt.st t fun u e => up e h.plc.2.symm, h.room.cells.keep CellAt.st t fun u e => up e h.plc.1.symm, h.room.ne⟩, h.ne⟩
abbrev N_Maker___init__ : List Str := ["self", "order", "size"]
abbrev P_Maker___init__ : List Str := ["self", "order", "size"]
def sp_Maker___init__ (K : PySem.W.Frag) : Sp := fun vs H Q E => match vs with
  | [s, ov, sz] => ∃ p dx lo o size, s = .ref p ∧ ov = .ref lo ∧ sz = .int size ∧ H p = some (.ins (He.ga K "Maker") dx []) ∧ Lst TurnAt H lo o ∧ ∀ pr lc H', MakerS K H' p lo pr lc o size [] 0 none → H pr = none → H lc = none → But [p] H H' → Q .non H'
  | _ => False
def t_Maker___init__ (K : PySem.W.Frag) (E : XK) : TS := (tSeq (sFl K (tVar 0) (tVar 1) "order")
  (tSeq (sFl K (tVar 0) (tVar 2) "size")
   (tSeq (sFl K (tVar 0) (tMake (He.ga K "Room") (sp_Room___init__ K) [] E (tCons (tVar 1) tNil)) "room")
    (tSeq (sFl K (tVar 0) (tC (.int 0)) "run")
     (sFl K (tVar 0) (tC .non) "last")))))
theorem pure_Maker___init__ {K : PySem.W.Frag} (T : TxtMaker K) : ∀ vs H Q E, sp_Maker___init__ K vs H Q E → t_Maker___init__ K E { nx := fun _ H' => Q .non H', rt := Q } (start N_Maker___init__ vs) H := by
  intro vs H Q E h
  match vs, h with
  | [s, ov, sz], h =>
    obtain ⟨p, dx, lo, o, size, rfl, rfl, rfl, hp, ho, k⟩ := h
    have npo : lo ≠ p := by
      obtain ⟨tv, e, _⟩ := ho
      exact ne_of e hp (by intro z; cases z)
    refine ⟨_, rfl, _, rfl, p, _, dx, _, rfl, hp, T.cl, T.n_order, by show 0 < 1000; decide, ?_⟩
    rw [put_nil]
    refine ⟨_, rfl, _, rfl, p, _, dx, _, rfl, upd_same, T.cl, T.n_size, by show 1 < 1000; decide, ?_⟩
    rw [put_tl (by decide +kernel), put_nil]
    have k1 : But [p] H (upd (upd H p (.ins (He.ga K "Maker") dx [(("order" : Str), .ref lo)])) p (.ins (He.ga K "Maker") dx [(("order" : Str), .ref lo), (("size" : Str), .int size)])) := ((But.refl _ H).put (by simp)).put (by simp)
    generalize hH1 : upd (upd H p (.ins (He.ga K "Maker") dx [(("order" : Str), .ref lo)])) p (.ins (He.ga K "Maker") dx [(("order" : Str), .ref lo), (("size" : Str), .int size)]) = H1 at k1 ⊢
    have hp1 : H1 p = some (.ins (He.ga K "Maker") dx [(("order" : Str), .ref lo), (("size" : Str), .int size)]) := by rw [← hH1]; exact upd_same
    have t1 : TupLe H H1 := fun c xs e => k1 c _ e (ne1 (ne_of e hp (by intro z; cases z)))
    have ho1 : Lst TurnAt H1 lo o := ho.keep TurnAt.st t1 fun u e => k1 _ _ e (ne1 npo)
    refine ⟨_, rfl, fun pr dr hpr hdr ndr => ?_⟩
    have s2 : Same H1 (upd (upd H1 dr (.own pr)) pr (.ins (He.ga K "Room") dr [])) := (Rs.Same.new hdr).trans (Rs.Same.new (by rw [upd_ne ndr.symm]; exact hpr))
    generalize hH2 : upd (upd H1 dr (.own pr)) pr (.ins (He.ga K "Room") dr []) = H2 at s2 ⊢
    have hpr2 : H2 pr = some (.ins (He.ga K "Room") dr []) := by rw [← hH2]; exact upd_same
    refine ⟨pr, dr, lo, o, rfl, rfl, hpr2, ho1.same TurnAt.st s2, fun lc H3 R hlc k3 => ⟨rfl, ?_⟩⟩
    have npr : p ≠ pr := ne_of_none hp1 hpr
    have hp3 : H3 p = some (.ins (He.ga K "Maker") dx [(("order" : Str), .ref lo), (("size" : Str), .int size)]) := k3 _ _ (s2 _ _ hp1) (ne1 npr)
    have plc : p ≠ lc := ne_of_none (s2 _ _ hp1) hlc
    have hpr0 : H pr = none := none_of_but k1 hpr (ne1 npr.symm)
    have hlc1 : H1 lc = none := s2.free hlc
    have hlc0 : H lc = none := none_of_but k1 hlc1 (ne1 plc.symm)
    refine ⟨_, rfl, p, _, dx, _, rfl, hp3, T.cl, T.n_room, by show 2 < 1000; decide, ?_⟩
    rw [put_tl (by decide +kernel), put_tl (by decide +kernel), put_nil]
    refine ⟨_, rfl, p, _, dx, _, rfl, upd_same, T.cl, T.n_run, by show 3 < 1000; decide, ?_⟩
    rw [put_tl (by decide +kernel), put_tl (by decide +kernel), put_tl (by decide +kernel), put_nil]
    refine ⟨_, rfl, p, _, dx, _, rfl, upd_same, T.cl, T.n_last, by show 4 < 1000; decide, ?_⟩
    rw [put_tl (by decide +kernel), put_tl (by decide +kernel), put_tl (by decide +kernel), put_tl (by decide +kernel), put_nil]
    have s13 : Same H1 H3 := k3.fresh s2 (fun x hx => by rw [List.mem_singleton] at hx; rw [hx]; exact hpr)
    have k4 : ∀ u1 u2 u3 : HO, But [p] H3 (upd (upd (upd H3 p u1) p u2) p u3) := fun u1 u2 u3 => (((But.refl _ H3).put (by simp)).put (by simp)).put (by simp)
    have t4 : ∀ u1 u2 u3 : HO, TupLe H3 (upd (upd (upd H3 p u1) p u2) p u3) := fun u1 u2 u3 c xs e => k4 u1 u2 u3 c _ e (ne1 (ne_of e hp3 (by intro z; cases z)))
    refine k pr lc _ ⟨⟨.non, ⟨dx, upd_same⟩, rfl⟩, ⟨R.ob.keep fun u e => k4 _ _ _ _ _ e (ne1 npr.symm), R.ord.keep TurnAt.st (t4 _ _ _) fun u e => k4 _ _ _ _ _ e (ne1 npo), R.cells.keep CellAt.st (t4 _ _ _) fun u e => k4 _ _ _ _ _ e (ne1 plc.symm), R.ne⟩, npr⟩ hpr0 hlc0 ((k1.trans (But.same s13)).trans (k4 _ _ _))
abbrev N_Maker_has_space : List Str := ["self"]
abbrev P_Maker_has_space : List Str := ["self"]
def sp_Maker_has_space (K : PySem.W.Frag) : Sp := fun vs H Q E => match vs with
  | [s] => ∃ p lo pr lc o size cs run last, s = .ref p ∧ MakerS K H p lo pr lc o size cs run last ∧ Q (.bl (decide ((cs.length : Int) < size))) H
  | _ => False
def t_Maker_has_space (K : PySem.W.Frag) (E : XK) : TS := (tRet (tOp xLt (tMeth (He.ga K "Room") "many_in" (sp_Room_many_in K) [] E (tFl K (tVar 0) "room") tNil) (tFl K (tVar 0) "size")))
theorem pure_Maker_has_space {K : PySem.W.Frag} (T : TxtMaker K) : ∀ vs H Q E, sp_Maker_has_space K vs H Q E → t_Maker_has_space K E { nx := fun _ H' => Q .non H', rt := Q } (start N_Maker_has_space vs) H := by
  intro vs H Q E h
  match vs, h with
  | [s], h =>
    obtain ⟨p, lo, pr, lc, o, size, cs, run, last, rfl, M, k⟩ := h
    obtain ⟨vl, ob, _⟩ := M.ob
    obtain ⟨dr, hob⟩ := M.room.ob
    exact ⟨_, rfl, g_Maker_room T ob ⟨pr, dr, _, rfl, hob, no_Room_many_in, pr, lo, lc, o, cs, rfl, M.room, _, rfl, g_Maker_size T ob ⟨_, _, rfl, rfl, k⟩⟩⟩
abbrev N_Maker_come : List Str := ["self", "pair", "late"]
abbrev P_Maker_come : List Str := ["self", "pair"]
def late (o : Ord) (q : Pr) (last : Option Pr) : Bool := match last with
  | none => false
  | some l => before o q l
def lateI (o : Ord) (q : Pr) (last : Option Pr) : Int := if late o q last then 1 else 0
def sp_Maker_come (K : PySem.W.Frag) : Sp := fun vs H Q E => match vs with
  | [s, pv] => ∃ p lo pr lc o size cs run last ks q, s = .ref p ∧ MakerS K H p lo pr lc o size cs run last ∧ PairAt H pv q ∧ (∀ t ∈ o, t.1 < ks.length) ∧ isRow ks q.2 = true ∧ (∀ c ∈ cs, isRow ks c.2.2 = true) ∧ (∀ l, last = some l → isRow ks l.2 = true) ∧ IsHeap (cless o) c0 cs ∧ cs.length ≤ 1000 ∧
    ∀ cs' H', MakerS K H' p lo pr lc o size cs' run last → IsHeap (cless o) c0 cs' → cs'.Perm ((run + lateI o q last, q) :: cs) → But [lc] H H' → Q .non H'
  | _ => False
def t_Maker_come (K : PySem.W.Frag) (E : XK) : TS := (tSeq (tAsg (tAndV (tOpC rNotN (tFl K (tVar 0) "last") .non) (tCall (sp_is_before K) [] E (tCons (tFl K (tVar 0) "order") (tCons (tVar 1) (tCons (tFl K (tVar 0) "last") tNil))))) (gName 2))
  (tDrop (tMeth (He.ga K "Room") "put" (sp_Room_put K) [] E (tFl K (tVar 0) "room") (tCons (tOp xAdd (tFl K (tVar 0) "run") (tCB1 xInt (tVar 2))) (tCons (tVar 1) tNil)))))
theorem pure_Maker_come {K : PySem.W.Frag} (T : TxtMaker K) : ∀ vs H Q E, sp_Maker_come K vs H Q E → t_Maker_come K E { nx := fun _ H' => Q .non H', rt := Q } (start N_Maker_come vs) H := by
  intro vs H Q E h
  match vs, h with
  | [s, pv], h =>
    obtain ⟨p, lo, pr, lc, o, size, cs, run, last, ks, q, rfl, M, hq, hcol, hrow, hrows, hlast, hheap, hlen, k⟩ := h
    obtain ⟨vl, ob, hvl⟩ := M.ob
    obtain ⟨dr, hob⟩ := M.room.ob
    have fin : ∀ b : Bool, b = late o q last → (tDrop (tMeth (He.ga K "Room") "put" (sp_Room_put K) [] E (tFl K (tVar 0) "room") (tCons (tOp xAdd (tFl K (tVar 0) "run") (tCB1 xInt (tVar 2))) (tCons (tVar 1) tNil)))) { nx := fun _ H' => Q .non H', rt := Q } [some (.ref p), some pv, some (.bl b)] H := fun b hb => by
      refine ⟨_, rfl, g_Maker_room T ob ⟨pr, dr, _, rfl, hob, no_Room_put, _, rfl, g_Maker_run T ob ⟨_, rfl, .inr ⟨_, rfl, _, _, rfl, rfl, _, rfl, ?_⟩⟩⟩⟩
      refine ⟨pr, lo, lc, o, cs, ks, _, q, rfl, rfl, M.room, hq, hcol, hrow, hrows, hheap, hlen, fun cs' H' R' hh pm kk => ?_⟩
      refine k cs' H' (M.roomed kk R') hh ?_ kk
      unfold lateI
      rw [← hb]
      exact pm
    cases last with
    | none =>
      have e : vl = .non := hvl
      subst e
      exact ⟨_, rfl, g_Maker_last T ob ⟨rfl, _, rfl, fin false rfl⟩⟩
    | some l =>
      have hvl : PairAt H vl l := hvl
      have en : (!decide (vl = V.non)) = true := by
        obtain ⟨w, ⟨a, rfl, _⟩, _⟩ := hvl
        rfl
      refine ⟨_, rfl, g_Maker_last T ob ⟨rfl, _, rfl, ?_⟩⟩
      rw [en]
      refine ⟨_, rfl, g_Maker_order T ob ⟨_, rfl, _, rfl, g_Maker_last T ob ?_⟩⟩
      exact ⟨o, q, l, ⟨lo, rfl, M.room.ord⟩, hq, hvl, cmp_of hcol hrow (hlast l rfl), fin _ rfl⟩
abbrev N_Maker_goes : List Str := ["self"]
abbrev P_Maker_goes : List Str := ["self"]
def sp_Maker_goes (K : PySem.W.Frag) : Sp := fun vs H Q E => match vs with
  | [s] => ∃ p lo pr lc o size cs run last ks, s = .ref p ∧ MakerS K H p lo pr lc o size cs run last ∧ (∀ t ∈ o, t.1 < ks.length) ∧ (∀ c ∈ cs, isRow ks c.2.2 = true) ∧ IsHeap (cless o) c0 cs ∧ cs.length ≤ 1000 ∧
    ((cs = [] ∨ (cs.getD 0 c0).1 ≠ run) → ∀ H', Same H H' → Q .non H') ∧
    (0 < cs.length → (cs.getD 0 c0).1 = run → ∀ cs' v H', MakerS K H' p lo pr lc o size cs' run (some (cs.getD 0 c0).2) → IsHeap (cless o) c0 cs' → (cs.getD 0 c0 :: cs').Perm cs → PairAt H' v (cs.getD 0 c0).2 → But [p, lc] H H' → Q v H')
  | _ => False
def t_Maker_goes (K : PySem.W.Frag) (E : XK) : TS := (tSeq (tIfS (tTest (tOp rNe (tMeth (He.ga K "Room") "first_run" (sp_Room_first_run K) [] E (tFl K (tVar 0) "room") tNil) (tFl K (tVar 0) "run"))) (tRet (tC .non)) tNext)
  (tSeq (sFl K (tVar 0) (tOpC (rIxT K) (tMeth (He.ga K "Room") "take" (sp_Room_take K) [] E (tFl K (tVar 0) "room") tNil) (.int 1)) "last")
   (tRet (tFl K (tVar 0) "last"))))
theorem pure_Maker_goes {K : PySem.W.Frag} (T : TxtMaker K) : ∀ vs H Q E, sp_Maker_goes K vs H Q E → t_Maker_goes K E { nx := fun _ H' => Q .non H', rt := Q } (start N_Maker_goes vs) H := by
  intro vs H Q E h
  match vs, h with
  | [s], h =>
    obtain ⟨p, lo, pr, lc, o, size, cs, run, last, ks, rfl, M, hcol, hrows, hheap, hlen, k1, k2⟩ := h
    obtain ⟨vl, ob, hvl⟩ := M.ob
    obtain ⟨dr, hob⟩ := M.room.ob
    refine ⟨_, rfl, g_Maker_room T ob ⟨pr, dr, _, rfl, hob, no_Room_first_run, pr, lo, lc, o, cs, rfl, M.room, fun H1 s1 => ?_⟩⟩
    have ob1 := ob.keep fun u => s1 p u
    have M1 := M.same s1
    refine ⟨_, rfl, g_Maker_run T ob1 ?_⟩
    cases hcs : cs with
    | nil => exact ⟨rfl, _, rfl, k1 (.inl hcs) _ s1⟩
    | cons c cr =>
      have g0 : cs.getD 0 c0 = c := by rw [hcs]; rfl
      refine ⟨rfl, _, rfl, ?_⟩
      by_cases he : c.1 = run
      · have e1 : (!decide (V.int c.1 = V.int run)) = false := by rw [he]; simp
        rw [e1]
        have hpos : 0 < cs.length := by rw [hcs]; simp
        obtain ⟨dr1, hob1⟩ := M1.room.ob
        refine ⟨_, rfl, g_Maker_room T ob1 ⟨pr, dr1, _, rfl, hob1, no_Room_take, pr, lo, lc, o, cs, ks, rfl, M1.room, hcol, hrows, hheap, hpos, hlen, fun cs' v H2 R2 hh pm hv kk => ?_⟩⟩
        obtain ⟨w, hvw, hw⟩ := hv
        have M2 := M1.roomed kk R2
        obtain ⟨vl2, ob2, hvl2⟩ := M2.ob
        refine ixT hvw (j := 1) rfl rfl ⟨_, rfl, ?_⟩
        refine s_Maker_last T ob2 fun dx hp => ?_
        have M3 := M2.obbed (dx := dx) (run' := run) (last' := some (cs.getD 0 c0).2) (vl := w) hw
        have ob3 : MakerOb K (upd H2 p (.ins (He.ga K "Maker") dx (f_Maker (.ref lo) (.int size) (.ref pr) (.int run) w))) p (.ref lo) (.int size) (.ref pr) (.int run) w := ⟨dx, upd_same⟩
        refine ⟨_, rfl, g_Maker_last T ob3 ?_⟩
        have kf : But [p, lc] H (upd H2 p (.ins (He.ga K "Maker") dx (f_Maker (.ref lo) (.int size) (.ref pr) (.int run) w))) := ((But.same s1).trans (kk.wide fun x hx => by rw [List.mem_singleton] at hx; rw [hx]; simp)).put (by simp)
        refine k2 hpos (by rw [g0]; exact he) cs' w _ M3 hh pm ?_ kf
        exact PairAt.st _ _ _ _ (M2.tup ((But.refl _ H2).put (by simp))) hw
      · have e1 : (!decide (V.int c.1 = V.int run)) = true := by rw [decide_eq_false fun z => he (by injection z)]; rfl
        rw [e1]
        exact k1 (.inr (by rw [g0]; exact he)) _ s1
abbrev N_Maker_turn : List Str := ["self"]
abbrev P_Maker_turn : List Str := ["self"]
def sp_Maker_turn (K : PySem.W.Frag) : Sp := fun vs H Q E => match vs with
  | [s] => ∃ p lo pr lc o size cs run last, s = .ref p ∧ MakerS K H p lo pr lc o size cs run last ∧ ∀ H', MakerS K H' p lo pr lc o size cs (run + 1) none → But [p] H H' → Q .non H'
  | _ => False
def t_Maker_turn (K : PySem.W.Frag) (E : XK) : TS := (tSeq (sFl K (tVar 0) (tOpC xAdd (tFl K (tVar 0) "run") (.int 1)) "run")
  (sFl K (tVar 0) (tC .non) "last"))
theorem pure_Maker_turn {K : PySem.W.Frag} (T : TxtMaker K) : ∀ vs H Q E, sp_Maker_turn K vs H Q E → t_Maker_turn K E { nx := fun _ H' => Q .non H', rt := Q } (start N_Maker_turn vs) H := by
  intro vs H Q E h
  match vs, h with
  | [s], h =>
    obtain ⟨p, lo, pr, lc, o, size, cs, run, last, rfl, M, k⟩ := h
    obtain ⟨vl, ob, hvl⟩ := M.ob
    refine ⟨_, rfl, g_Maker_run T ob ⟨_, _, rfl, rfl, _, rfl, s_Maker_run T ob fun dx hp => ?_⟩⟩
    have M1 := M.obbed (dx := dx) (run' := run + 1) (last' := last) (vl := vl) hvl
    refine ⟨_, rfl, s_Maker_last T ⟨dx, upd_same⟩ fun dx2 hp2 => ?_⟩
    exact k _ (M1.obbed (last' := none) rfl) (((But.refl _ H).put (by simp)).put (by simp))
end Rs

namespace Rs
open PySem PySem.Spec PyProof.Rows L2
/-! ### put in order; the runs by exchange -/
def srt (o : Ord) : List Pr → List Pr
  | [] => []
  | x :: xs => mrg o [x] (srt o xs)
theorem srt_perm (o : Ord) : ∀ xs, (srt o xs).Perm xs
  | [] => .nil
  | x :: xs => (mrg_perm o (srt o xs) [x]).trans ((srt_perm o xs).cons x)
theorem srt_up {ks : List Str} {o : Ord} (ho : ∀ t ∈ o, t.1 < ks.length) : ∀ xs, Fine ks xs → Up o (srt o xs)
  | [], _ => .nil
  | x :: xs, f => by
    have fx : Fine ks xs := f.sub (List.sublist_cons_self ..)
    refine mrg_up ho (srt o xs) [x] (f.perm ?_) (List.pairwise_singleton _ _) (srt_up ho xs fx)
    exact (srt_perm o xs).cons x
theorem srt_eq {ks : List Str} {o : Ord} (ho : ∀ t ∈ o, t.1 < ks.length) {xs ys : List Pr} (f : Fine ks xs) (p : ys.Perm xs) (u : Up o ys) : ys = srt o xs :=
  up_unique ho (f.perm p) (p.trans (srt_perm o xs).symm) u (srt_up ho xs f)
/-- the least of them -/
def mn (o : Ord) (xs : List Pr) : Pr := (srt o xs).getD 0 c0.2
theorem mn_mem (o : Ord) {xs : List Pr} (h : xs ≠ []) : mn o xs ∈ xs := by
  have p := srt_perm o xs
  unfold mn
  cases e : srt o xs with
  | nil => rw [e] at p; exact absurd p.nil_eq.symm h
  | cons y ys =>
    rw [e] at p
    exact p.mem_iff.mp (List.mem_cons_self ..)
theorem mn_first {ks : List Str} {o : Ord} (ho : ∀ t ∈ o, t.1 < ks.length) {xs : List Pr} (f : Fine ks xs) {x : Pr} (hx : x ∈ xs) (n : x ≠ mn o xs) : before o (mn o xs) x = true := by
  have p := srt_perm o xs
  have u := srt_up ho xs f
  unfold mn at n ⊢
  cases e : srt o xs with
  | nil => rw [e] at p; rw [p.nil_eq.symm] at hx; simp at hx
  | cons y ys =>
    rw [e] at p u n
    rcases List.mem_cons.mp (p.mem_iff.mpr hx) with h | h
    · exact absurd h n
    · exact List.rel_of_pairwise_cons u h
/-- the one that none is ahead of -/
theorem mn_eq {ks : List Str} {o : Ord} (ho : ∀ t ∈ o, t.1 < ks.length) {xs : List Pr} (f : Fine ks xs) {x : Pr} (hx : x ∈ xs) (h : ∀ y ∈ xs, before o y x = false) : x = mn o xs := by
  by_cases n : x = mn o xs
  · exact n
  · have t := mn_first ho f hx n
    rw [h _ (mn_mem o (by intro e; rw [e] at hx; simp at hx))] at t
    cases t
/-- without the one of this number -/
def outN (n : Int) (xs : List Pr) : List Pr := xs.filter fun q => decide (q.1 ≠ n)
theorem outN_none {n : Int} : ∀ {xs : List Pr}, n ∉ xs.map (·.1) → outN n xs = xs
  | [], _ => rfl
  | x :: xs, h => by
    rw [List.map_cons, List.mem_cons] at h
    have ne : x.1 ≠ n := fun e => h (.inl e.symm)
    unfold outN
    rw [List.filter_cons, if_pos (decide_eq_true ne)]
    congr 1
    exact outN_none fun z => h (.inr z)
theorem out_erase : ∀ {xs : List Pr} {j : Nat} {m : Pr}, (xs.map (·.1)).Nodup → xs[j]? = some m → xs.eraseIdx j = outN m.1 xs
  | [], _, _, _, h => by simp at h
  | x :: xs, 0, m, nd, h => by
    have h : x = m := by simpa using h
    subst h
    rw [List.map_cons, List.nodup_cons] at nd
    unfold outN
    rw [List.filter_cons, if_neg (by simp)]
    exact (outN_none nd.1).symm
  | x :: xs, j + 1, m, nd, h => by
    have h : xs[j]? = some m := by simpa using h
    rw [List.map_cons, List.nodup_cons] at nd
    have ih := out_erase nd.2 h
    have ne : x.1 ≠ m.1 := fun e => nd.1 (by rw [e]; exact List.mem_map_of_mem (List.mem_of_getElem? h))
    unfold outN
    rw [List.filter_cons, if_pos (decide_eq_true ne), List.eraseIdx_cons_succ, ih]
    rfl
theorem out_perm {xs : List Pr} {m : Pr} (nd : (xs.map (·.1)).Nodup) (h : m ∈ xs) : xs.Perm (m :: outN m.1 xs) := by
  obtain ⟨j, hj⟩ := List.mem_iff_getElem?.mp h
  rw [← out_erase nd hj]
  exact take_append_erase hj
/-- those that come in while there is room -/
def fillL (o : Ord) (size : Int) (last : Option Pr) : List Pr → List Pr → List Pr → List Pr × List Pr × List Pr
  | [], h, l => ([], h, l)
  | p :: left, h, l => if ((h.length : Int) + (l.length : Int) < size) then (if late o p last then fillL o size last left h (l ++ [p]) else fillL o size last left (h ++ [p]) l) else (p :: left, h, l)
theorem fill_perm (o : Ord) (size : Int) (last : Option Pr) : ∀ (left h l : List Pr), ((fillL o size last left h l).1 ++ ((fillL o size last left h l).2.1 ++ (fillL o size last left h l).2.2)).Perm (left ++ (h ++ l))
  | [], h, l => .refl _
  | p :: left, h, l => by
    unfold fillL
    split
    · split
      · refine (fill_perm o size last left h (l ++ [p])).trans ?_
        have e : left ++ (h ++ (l ++ [p])) = (left ++ (h ++ l)) ++ [p] := by simp
        rw [e]
        exact List.perm_append_comm (l₂ := [p])
      · refine (fill_perm o size last left (h ++ [p]) l).trans ?_
        rw [List.append_assoc]
        have q : (left ++ (h ++ ([p] ++ l))).Perm (left ++ ([p] ++ (h ++ l))) := by
          refine List.Perm.append_left _ ?_
          rw [← List.append_assoc, ← List.append_assoc]
          exact List.Perm.append_right _ List.perm_append_comm
        exact q.trans List.perm_middle
    · exact .refl _
/-- with those here, or with one to come and none ahead of it: there are some here -/
theorem fill_here (o : Ord) (size : Int) (last : Option Pr) : ∀ (left h l : List Pr), h ≠ [] → (fillL o size last left h l).2.1 ≠ []
  | [], h, l, n => n
  | p :: left, h, l, n => by
    unfold fillL
    split
    · split
      · exact fill_here o size last left h (l ++ [p]) n
      · exact fill_here o size last left (h ++ [p]) l (by simp)
    · exact n
/-- one run: what is left, what is late, the run -/
def inner (o : Ord) (size : Int) : Nat → List Pr → List Pr → List Pr → List Pr → List Pr × List Pr × List Pr
  | 0, left, _, l, run => (left, l, run)
  | n + 1, left, h, l, run =>
    if (fillL o size run.getLast? left h l).2.1 = [] then ((fillL o size run.getLast? left h l).1, (fillL o size run.getLast? left h l).2.2, run)
    else inner o size n (fillL o size run.getLast? left h l).1 (outN (mn o (fillL o size run.getLast? left h l).2.1).1 (fillL o size run.getLast? left h l).2.1) (fillL o size run.getLast? left h l).2.2 (run ++ [mn o (fillL o size run.getLast? left h l).2.1])
def outer (o : Ord) (size : Int) : Nat → List Pr → List Pr → List (List Pr) → List (List Pr)
  | 0, _, _, found => found
  | n + 1, left, l, found => if left = [] ∧ l = [] then found else
    outer o size n (inner o size (left.length + l.length + 1) left l [] []).1 (inner o size (left.length + l.length + 1) left l [] []).2.1 (found ++ [(inner o size (left.length + l.length + 1) left l [] []).2.2])
def runsOf (o : Ord) (size : Int) (xs : List Pr) : List (List Pr) := outer o size (xs.length + 1) xs [] []
/-- the sizes, the kind of what stays, in one run -/
theorem inner_keeps {ks : List Str} {o : Ord} {size : Int} : ∀ (n : Nat) (left h l run : List Pr), Fine ks (left ++ (h ++ l)) → left.length + h.length + l.length < n → (∀ q ∈ run, isRow ks q.2 = true) →
    Fine ks ((inner o size n left h l run).1 ++ ([] ++ (inner o size n left h l run).2.1)) ∧ (inner o size n left h l run).1.length + (inner o size n left h l run).2.1.length + (inner o size n left h l run).2.2.length = left.length + h.length + l.length + run.length ∧
    (∀ q ∈ (inner o size n left h l run).2.2, isRow ks q.2 = true) ∧ run.length ≤ (inner o size n left h l run).2.2.length ∧ ((fillL o size run.getLast? left h l).2.1 ≠ [] → run.length < (inner o size n left h l run).2.2.length)
  | 0, left, h, l, run, _, b, _ => by omega
  | n + 1, left, h, l, run, f, b, hr => by
    have pm := fill_perm o size run.getLast? left h l
    unfold inner
    generalize fillL o size run.getLast? left h l = r at pm
    obtain ⟨l1, h1, t1⟩ := r
    dsimp only at pm ⊢
    have e := pm.length_eq
    simp only [List.length_append] at e
    split
    · rename_i hh
      subst hh
      exact ⟨f.perm pm, by show l1.length + t1.length + run.length = _; rw [List.length_nil] at e; omega, hr, Nat.le_refl _, fun z => absurd rfl z⟩
    · rename_i hh
      have f1 : Fine ks (l1 ++ (h1 ++ t1)) := f.perm pm
      have nd : (h1.map (·.1)).Nodup := (f1.right.left).nd
      have om := out_perm nd (mn_mem o hh)
      have ol := om.length_eq
      rw [List.length_cons] at ol
      have q1 : ((l1 ++ (outN (mn o h1).1 h1 ++ t1)) ).Sublist (l1 ++ (h1 ++ t1)) := List.Sublist.append (.refl _) (List.Sublist.append List.filter_sublist (.refl _))
      have rm : isRow ks (mn o h1).2 = true := f1.row _ (List.mem_append_right _ (List.mem_append_left _ (mn_mem o hh)))
      obtain ⟨a1, a2, a3, a4, a5⟩ := inner_keeps n l1 (outN (mn o h1).1 h1) t1 (run ++ [mn o h1]) (f1.sub q1) (by omega) (fun q hq => by
        rcases List.mem_append.mp hq with z | z
        · exact hr q z
        · rw [List.mem_singleton.mp z]; exact rm)
      rw [List.length_append, List.length_singleton] at a2 a4
      exact ⟨a1, by omega, a3, by omega, fun _ => by omega⟩
/-- a run takes one at least -/
theorem fill_some (o : Ord) {size : Int} (h1 : 1 ≤ size) {left l : List Pr} (n : ¬ (left = [] ∧ l = [])) : (fillL o size none left l []).2.1 ≠ [] := by
  by_cases hl : l = []
  · subst hl
    cases left with
    | nil => exact absurd ⟨rfl, rfl⟩ n
    | cons p left =>
      unfold fillL
      rw [if_pos (by simp; omega)]
      exact fill_here o size none left [p] [] (by simp)
  · exact fill_here o size none left l [] hl
end Rs

namespace Rs
open PySem PySem.Spec PyProof.Rows L2
/-! ### the room's cells beside those here and those late -/
def cells (k : Int) (h l : List Pr) : List Cell := h.map (fun q => (k, q)) ++ l.map fun q => (k + 1, q)
theorem cells_len {k : Int} {h l : List Pr} : (cells k h l).length = h.length + l.length := by simp [cells]
theorem cells_row {ks : List Str} {k : Int} {h l : List Pr} {cs : List Cell} (p : cs.Perm (cells k h l)) (r : ∀ q ∈ h ++ l, isRow ks q.2 = true) : ∀ c ∈ cs, isRow ks c.2.2 = true := fun c hc => by
  rcases List.mem_append.mp (p.mem_iff.mp hc) with z | z
  · obtain ⟨q, hq, rfl⟩ := List.mem_map.mp z
    exact r q (List.mem_append_left _ hq)
  · obtain ⟨q, hq, rfl⟩ := List.mem_map.mp z
    exact r q (List.mem_append_right _ hq)
theorem cells_come {o : Ord} {k : Int} {h l : List Pr} {cs cs' : List Cell} {q : Pr} {last : Option Pr} (p : cs.Perm (cells k h l)) (p' : cs'.Perm ((k + lateI o q last, q) :: cs)) :
    cs'.Perm (if late o q last then cells k h (l ++ [q]) else cells k (h ++ [q]) l) := by
  refine p'.trans ((p.cons _).trans ?_)
  unfold lateI
  cases late o q last with
  | true =>
    simp only [if_true]
    unfold cells
    rw [List.map_append, ← List.append_assoc]
    exact List.perm_append_comm (l₁ := [(k + 1, q)])
  | false =>
    simp only [Bool.false_eq_true, if_false, Int.add_zero]
    unfold cells
    rw [List.map_append, List.append_assoc]
    exact (List.perm_middle (l₁ := h.map fun q => (k, q)) (a := (k, q)) (l₂ := l.map fun q => (k + 1, q))).symm
theorem cells_turn {k : Int} {l : List Pr} : cells k [] l = cells (k + 1) l [] := by simp [cells]
theorem cells_min {ks : List Str} {o : Ord} (ho : ∀ t ∈ o, t.1 < ks.length) {k : Int} {h l : List Pr} {cs : List Cell} (f : Fine ks (h ++ l)) (p : cs.Perm (cells k h l)) (hh : IsHeap (cless o) c0 cs) (n : h ≠ []) : 0 < cs.length ∧ cs.getD 0 c0 = (k, mn o h) := by
  have hl := p.length_eq
  rw [cells_len] at hl
  have hpos : 0 < h.length := List.length_pos_iff.mpr n
  have hrows := cells_row p f.row
  have hc : 0 < cs.length := by omega
  have hmin := heap_min (cless_strict (ks := ks) ho) hrows hh (cless_irrefl o)
  have low : ∀ c ∈ cs, cless o c (cs.getD 0 c0) = false := fun c hc => by
    obtain ⟨i, hi, e⟩ := List.mem_iff_getElem.mp hc
    have t := hmin i hi
    rw [getD_lt hi, e] at t
    exact t
  refine ⟨hc, ?_⟩
  have hm : cs.getD 0 c0 ∈ cells k h l := p.mem_iff.mp (getD_mem hc)
  have inh : ∀ q ∈ h, ((k, q) : Cell) ∈ cs := fun q hq => p.mem_iff.mpr (List.mem_append_left _ (List.mem_map_of_mem hq))
  rcases List.mem_append.mp hm with z | z
  · obtain ⟨q, hq, e⟩ := List.mem_map.mp z
    rw [← e] at low ⊢
    congr 1
    refine mn_eq ho f.left hq fun y hy => ?_
    have t := low _ (inh y hy)
    unfold cless at t
    rw [if_neg (fun z => z rfl)] at t
    exact t
  · obtain ⟨q, hq, e⟩ := List.mem_map.mp z
    exfalso
    have t := low _ (inh _ (mn_mem o n))
    rw [← e] at t
    unfold cless at t
    rw [if_pos (by show k ≠ k + 1; omega)] at t
    have := of_decide_eq_false t
    have h2 : ¬ k < k + 1 := this
    omega
theorem cells_none {k : Int} {l : List Pr} {cs : List Cell} (p : cs.Perm (cells k [] l)) : cs = [] ∨ (cs.getD 0 c0).1 ≠ k := by
  cases hc : cs with
  | nil => exact .inl rfl
  | cons c cr =>
    right
    have m : c ∈ cells k [] l := p.mem_iff.mp (by rw [hc]; exact List.mem_cons_self ..)
    rw [cells, List.map_nil, List.nil_append] at m
    obtain ⟨q, _, e⟩ := List.mem_map.mp m
    show c.1 ≠ k
    rw [← e]
    show k + 1 ≠ k
    omega
theorem cells_take {ks : List Str} {o : Ord} {k : Int} {h l : List Pr} {cs cs' : List Cell} (f : Fine ks (h ++ l)) (p : cs.Perm (cells k h l)) (n : h ≠ []) (q : (((k, mn o h) : Cell) :: cs').Perm cs) : cs'.Perm (cells k (outN (mn o h).1 h) l) := by
  have op := out_perm f.left.nd (mn_mem o n)
  have e : (cells k h l).Perm ((k, mn o h) :: cells k (outN (mn o h).1 h) l) := by
    unfold cells
    exact List.Perm.append_right _ (op.map fun q => ((k, q) : Cell))
  exact (q.trans (p.trans e)).cons_inv
/-! ### what is there, as data -/
def keyD : Key → PyData
  | .inl i => .int i
  | .inr s => .str s
def rowD (r : Row) : PyData := .tuple (r.map keyD)
def pairD (p : Pr) : PyData := .tuple [.int p.1, rowD p.2]
def turnD (t : Nat × Bool) : PyData := .tuple [.int (t.1 : Int), .str (wayS t.2)]
def runD (xs : List Pr) : PyData := .list (xs.map pairD)
def runsD (rs : List (List Pr)) : PyData := .list (rs.map runD)
section
variable {K : PySem.W.Frag} {H : Hp}
theorem dpAll {α : Type} {R : Rel α} {f : α → PyData} (hf : ∀ v x, R H v x → Dp K H v (f x)) : ∀ {vs : List V} {xs : List α}, Paired (R H) vs xs → DpAll K H vs (xs.map f)
  | _, _, .nil => .nil
  | _, _, .cons h t => .cons (hf _ _ h) (dpAll hf t)
theorem key_dp (x : Key) : Dp K H (kV x) (keyD x) := by
  cases x
  · exact .int _
  · exact .str _
theorem keys_dp : ∀ r : Row, DpAll K H (r.map kV) (r.map keyD)
  | [] => .nil
  | x :: r => .cons (key_dp x) (keys_dp r)
theorem row_dp {v : V} {r : Row} (h : RowAt H v r) : Dp K H v (rowD r) := by
  obtain ⟨a, rfl, e⟩ := h
  exact .tup (SqT.of e) (keys_dp r)
theorem pair_dp {v : V} {p : Pr} (h : PairAt H v p) : Dp K H v (pairD p) := by
  obtain ⟨w, ⟨a, rfl, e⟩, hr⟩ := h
  exact .tup (SqT.of e) (.cons (.int _) (.cons (row_dp hr) .nil))
theorem turn_dp {v : V} {t : Nat × Bool} (h : TurnAt H v t) : Dp K H v (turnD t) := by
  obtain ⟨a, rfl, e⟩ := h
  exact .tup (SqT.of e) (.cons (.int _) (.cons (.str _) .nil))
theorem lst_dp {α : Type} {R : Rel α} {f : α → PyData} (hf : ∀ v x, R H v x → Dp K H v (f x)) {l : Addr} {xs : List α} (h : Lst R H l xs) : Dp K H (.ref l) (.list (xs.map f)) := by
  obtain ⟨vs, e, p⟩ := h
  exact .lst (SqL.of e) (dpAll hf p)
theorem run_dp {N : Addr → Prop} {v : V} {xs : List Pr} (h : ∃ l, v = .ref l ∧ N l ∧ Lst PairAt H l xs) : Dp K H v (runD xs) := by
  obtain ⟨l, rfl, _, h⟩ := h
  exact lst_dp (fun _ _ => pair_dp) h
end
/-- data that is plain, not deep, not long -/
def okD : Nat → PyData → Prop
  | 0, _ => False
  | _ + 1, .none => True
  | _ + 1, .bool _ => True
  | _ + 1, .int _ => True
  | _ + 1, .str x => PyData.strOk x = true
  | n + 1, .list ds => ds.length ≤ 100000 ∧ ∀ d ∈ ds, okD n d
  | n + 1, .tuple ds => ds.length ≤ 100000 ∧ ∀ d ∈ ds, okD n d
  | _ + 1, _ => False
theorem okD.up : ∀ {n : Nat} {d : PyData}, okD n d → okD (n + 1) d
  | 0, _, h => h.elim
  | n + 1, .none, _ => trivial
  | n + 1, .bool _, _ => trivial
  | n + 1, .int _, _ => trivial
  | n + 1, .str _, h => h
  | n + 1, .list ds, h => ⟨h.1, fun d hd => okD.up (h.2 d hd)⟩
  | n + 1, .tuple ds, h => ⟨h.1, fun d hd => okD.up (h.2 d hd)⟩
theorem okD.ups {n : Nat} {d : PyData} (h : okD n d) : ∀ k, okD (n + k) d
  | 0 => h
  | k + 1 => okD.up (okD.ups h k)
theorem letters_ok : ∀ c ∈ letters, c < 0x110000 := by decide +kernel
theorem value_ok {k : Str} {x : Key} (h : isValue k x = true) (n : Nat) : okD (n + 1) (keyD x) := by
  cases x with
  | inl i => trivial
  | inr s =>
    simp only [isValue, Bool.and_eq_true, List.all_eq_true, decide_eq_true_eq] at h
    show PyData.strOk s = true
    unfold PyData.strOk
    rw [Array.all_eq_true_iff_forall_mem]
    intro c hc
    exact decide_eq_true (letters_ok c (h.2.2 c (Array.mem_toList_iff.mpr hc)))
theorem row_ok {ks : List Str} {r : Row} (h : isRow ks r = true) (hk : ks.length ≤ 100000) (n : Nat) : okD (n + 2) (rowD r) := ⟨by rw [List.length_map, isRow_len h]; exact hk, fun d hd => by
  obtain ⟨x, hx, rfl⟩ := List.mem_map.mp hd
  obtain ⟨i, hi, e⟩ := List.mem_iff_getElem.mp hx
  have hi2 : i < ks.length := by rw [← isRow_len h]; exact hi
  have v := isRow_val h hi2
  have e2 : kcol r i = x := by
    have q := kcol_get hi
    rw [List.getElem?_eq_getElem hi, e] at q
    exact (Option.some.inj q).symm
  rw [e2] at v
  exact value_ok v n⟩
theorem pair_ok {ks : List Str} {p : Pr} (h : isRow ks p.2 = true) (hk : ks.length ≤ 100000) (n : Nat) : okD (n + 3) (pairD p) := ⟨by show 2 ≤ 100000; decide, fun d hd => by
  rcases List.mem_cons.mp hd with e | e
  · subst e; trivial
  · rw [List.mem_singleton.mp e]; exact row_ok h hk n⟩
theorem turn_ok (t : Nat × Bool) (n : Nat) : okD (n + 2) (turnD t) := ⟨by show 2 ≤ 100000; decide, fun d hd => by
  rcases List.mem_cons.mp hd with e | e
  · subst e; trivial
  · rw [List.mem_singleton.mp e]
    show PyData.strOk (wayS t.2) = true
    cases t.2 <;> decide +kernel⟩
theorem list_ok {α : Type} {f : α → PyData} {xs : List α} {n : Nat} (h : xs.length ≤ 100000) (hf : ∀ x ∈ xs, okD n (f x)) : okD (n + 1) (.list (xs.map f)) := ⟨by rw [List.length_map]; exact h, fun d hd => by
  obtain ⟨x, hx, rfl⟩ := List.mem_map.mp hd
  exact hf x hx⟩
mutual
theorem okD.lay : ∀ (n : Nat) (d : PyData), okD n d → d.canLay0 = true ∧ d.depth ≤ n
  | 0, _, h => h.elim
  | n + 1, .none, _ => ⟨rfl, by simp [PyData.depth]⟩
  | n + 1, .bool _, _ => ⟨rfl, by simp [PyData.depth]⟩
  | n + 1, .int _, _ => ⟨rfl, by simp [PyData.depth]⟩
  | n + 1, .str _, h => ⟨h, by simp [PyData.depth]⟩
  | n + 1, .list ds, h => by
    have := okD.layAll n ds h.2
    simp [PyData.canLay0, PyData.depth, this.1]
    omega
  | n + 1, .tuple ds, h => by
    have := okD.layAll n ds h.2
    simp [PyData.canLay0, PyData.depth, this.1]
    omega
theorem okD.layAll : ∀ (n : Nat) (ds : List PyData), (∀ d ∈ ds, okD n d) → PyData.canLayAll0 ds = true ∧ PyData.depthAll ds ≤ n
  | n, [], _ => ⟨rfl, by simp [PyData.depthAll]⟩
  | n, d :: ds, h => by
    have h1 := okD.lay n d (h d (List.mem_cons_self ..))
    have h2 := okD.layAll n ds fun e he => h e (List.mem_cons_of_mem _ he)
    simp [PyData.canLayAll0, PyData.depthAll, h1.1, h2.1]
    omega
end
theorem okD.shaped {n : Nat} {d : PyData} (h : okD n d) (hn : n ≤ 64) : SeqAt.shaped d = true := by
  have q := okD.lay n d h
  unfold SeqAt.shaped
  rw [q.1, decide_eq_true (Nat.le_trans q.2 hn)]
  rfl
theorem okD.eqv {n : Nat} {d : PyData} (h : okD n d) : PyData.eqv d d = true := SeqAt.eqv_refl d (okD.lay n d h).1
theorem pair_uneq {p q : Pr} (h : p.1 ≠ q.1) : PyData.eqv (pairD p) (pairD q) = false := by
  simp [pairD, PyData.eqv, PyData.eqvAll, h]
end Rs

namespace Rs
open PySem PySem.Spec PyProof.Rows L2
/-! ### runs in lists of their own -/
def RunAt (H0 : Hp) (S : List Addr) : Rel (List Pr) := fun H v xs => ∃ l, v = .ref l ∧ H0 l = none ∧ l ∉ S ∧ Lst PairAt H l xs
section
variable {H0 H H' : Hp} {S S' : List Addr} {v : V} {xs : List Pr} {x l lf : Addr} {found : List (List Pr)}
theorem RunAt.keep (h : RunAt H0 S H v xs) (t : TupLe H H') (k : ∀ l, H0 l = none → l ∉ S → ∀ o, H l = some o → H' l = some o) : RunAt H0 S H' v xs := let ⟨l, e, a, b, c⟩ := h; ⟨l, e, a, b, c.keep PairAt.st t (k l a b)⟩
theorem RunAt.sub (h : RunAt H0 S H v xs) (k : ∀ y ∈ S', y ∈ S) : RunAt H0 S' H v xs := let ⟨l, e, a, b, c⟩ := h; ⟨l, e, a, fun z => b (k _ z), c⟩
theorem RunAt.new (h : RunAt H0 S H v xs) (hx : H x = none) : RunAt H0 (x :: S) H v xs := by
  obtain ⟨l, e, a, b, c⟩ := h
  refine ⟨l, e, a, fun z => ?_, c⟩
  obtain ⟨vs, q, _⟩ := c
  rcases List.mem_cons.mp z with z | z
  · rw [z, hx] at q; cases q
  · exact b z
theorem run_at_dp {K : PySem.W.Frag} (h : RunAt H0 S H v xs) : Dp K H v (runD xs) := let ⟨l, e, a, b, c⟩ := h; run_dp (N := fun _ => True) ⟨l, e, trivial, c⟩
theorem Runs.sub (h : Lst (RunAt H0 S) H lf found) (k : ∀ y ∈ S', y ∈ S) : Lst (RunAt H0 S') H lf found := let ⟨vs, a, b⟩ := h; ⟨vs, a, P2.mono (fun _ _ q => q.sub k) b⟩
theorem Runs.new (h : Lst (RunAt H0 S) H lf found) (hx : H x = none) : Lst (RunAt H0 (x :: S)) H lf found := let ⟨vs, a, b⟩ := h; ⟨vs, a, P2.mono (fun _ _ q => q.new hx) b⟩
theorem Runs.same (h : Lst (RunAt H0 S) H lf found) (s : Same H H') : Lst (RunAt H0 S) H' lf found := let ⟨vs, a, b⟩ := h; ⟨vs, s _ _ a, P2.mono (fun _ _ q => q.keep (TupLe.same s) fun l _ _ => s l) b⟩
theorem Runs.put {ys : List V} {u : HO} (h : Lst (RunAt H0 S) H lf found) (hx : H x = some (.lst ys)) (hs : x ∈ S) (n : lf ≠ x) : Lst (RunAt H0 S) (upd H x u) lf found := let ⟨vs, a, b⟩ := h; ⟨vs, up a n, P2.mono (fun _ _ q => q.keep ((TupLe.refl H).list hx) fun l _ hl o e => up e fun z => hl (by rw [z]; exact hs)) b⟩
theorem Lst.off {ys : List V} {u : HO} (h : Lst PairAt H l xs) (hx : H x = some (.lst ys)) (n : l ≠ x) : Lst PairAt (upd H x u) l xs := h.keep PairAt.st ((TupLe.refl H).list hx) fun o e => up e n
theorem Lst.on {ys vs : List V} (hx : H l = some (.lst ys)) (p : Paired (PairAt H) vs xs) : Lst PairAt (upd H l (.lst vs)) l xs := ⟨vs, upd_same, Paired.tl PairAt.st ((TupLe.refl H).list hx) p⟩
/-- a list of its own put at the end of the runs -/
theorem Runs.add {vs : List V} {ys : List (List Pr)} (hx : H lf = some (.lst vs)) (p : Paired (RunAt H0 S H) vs ys) (hs : lf ∈ S) {lr : Addr} {run : List Pr} (n : lr ≠ lf) (hn : H0 lr = none) (hr : lr ∉ S) (L : Lst PairAt H lr run) : Lst (RunAt H0 S) (upd H lf (.lst (vs ++ [.ref lr]))) lf (ys ++ [run]) := by
  have t : TupLe H (upd H lf (.lst (vs ++ [.ref lr]))) := (TupLe.refl H).list hx
  exact ⟨_, upd_same, P2.app (P2.mono (fun _ _ q => q.keep t fun l _ hl o e => up e fun z => hl (by rw [z]; exact hs)) p) (P2.one ⟨lr, rfl, hn, hr, L.off hx n⟩)⟩
end
/-- five lists: those left, here, late, the runs, the run -/
structure LR (H0 H : Hp) (a b c d e : Addr) (left here late : List Pr) (found : List (List Pr)) (run : List Pr) : Prop where
  same : Same H0 H
  fr : ∀ x ∈ [a, b, c, d, e], H0 x = none
  nd : [a, b, c, d, e].Nodup
  la : Lst PairAt H a left
  lb : Lst PairAt H b here
  lc : Lst PairAt H c late
  ld : Lst (RunAt H0 [a, b, c, d, e]) H d found
  le : Lst PairAt H e run
section
variable {H0 H H' : Hp} {a b c d e : Addr} {left here late left' here' late' : List Pr} {found : List (List Pr)} {run run' : List Pr} {vs : List V}
theorem nd5 (h : [a, b, c, d, e].Nodup) : ((a ≠ b ∧ a ≠ c ∧ a ≠ d ∧ a ≠ e) ∧ (b ≠ c ∧ b ≠ d ∧ b ≠ e) ∧ (c ≠ d ∧ c ≠ e) ∧ d ≠ e) := by simpa using h
theorem LR.on (L : LR H0 H a b c d e left here late found run) (s : Same H H') : LR H0 H' a b c d e left here late found run := ⟨L.same.trans s, L.fr, L.nd, L.la.same PairAt.st s, L.lb.same PairAt.st s, L.lc.same PairAt.st s, Runs.same L.ld s, L.le.same PairAt.st s⟩
theorem LR.pa (L : LR H0 H a b c d e left here late found run) (p : Paired (PairAt H) vs left') : LR H0 (upd H a (.lst vs)) a b c d e left' here late found run := by
  obtain ⟨⟨ab, ac, ad, ae⟩, ⟨bc, bd, be⟩, ⟨cd, ce⟩, de⟩ := nd5 L.nd
  obtain ⟨ys, hx, _⟩ := L.la
  exact ⟨Rs.Same.mut L.same (L.fr _ (by simp)), L.fr, L.nd, Lst.on hx p, L.lb.off hx ab.symm, L.lc.off hx ac.symm, Runs.put L.ld hx (by simp) ad.symm, L.le.off hx ae.symm⟩
theorem LR.pb (L : LR H0 H a b c d e left here late found run) (p : Paired (PairAt H) vs here') : LR H0 (upd H b (.lst vs)) a b c d e left here' late found run := by
  obtain ⟨⟨ab, ac, ad, ae⟩, ⟨bc, bd, be⟩, ⟨cd, ce⟩, de⟩ := nd5 L.nd
  obtain ⟨ys, hx, _⟩ := L.lb
  exact ⟨Rs.Same.mut L.same (L.fr _ (by simp)), L.fr, L.nd, L.la.off hx ab, Lst.on hx p, L.lc.off hx bc.symm, Runs.put L.ld hx (by simp) bd.symm, L.le.off hx be.symm⟩
theorem LR.pc (L : LR H0 H a b c d e left here late found run) (p : Paired (PairAt H) vs late') : LR H0 (upd H c (.lst vs)) a b c d e left here late' found run := by
  obtain ⟨⟨ab, ac, ad, ae⟩, ⟨bc, bd, be⟩, ⟨cd, ce⟩, de⟩ := nd5 L.nd
  obtain ⟨ys, hx, _⟩ := L.lc
  exact ⟨Rs.Same.mut L.same (L.fr _ (by simp)), L.fr, L.nd, L.la.off hx ac, L.lb.off hx bc, Lst.on hx p, Runs.put L.ld hx (by simp) cd.symm, L.le.off hx ce.symm⟩
theorem LR.pe (L : LR H0 H a b c d e left here late found run) (p : Paired (PairAt H) vs run') : LR H0 (upd H e (.lst vs)) a b c d e left here late found run' := by
  obtain ⟨⟨ab, ac, ad, ae⟩, ⟨bc, bd, be⟩, ⟨cd, ce⟩, de⟩ := nd5 L.nd
  obtain ⟨ys, hx, _⟩ := L.le
  exact ⟨Rs.Same.mut L.same (L.fr _ (by simp)), L.fr, L.nd, L.la.off hx ae, L.lb.off hx be, L.lc.off hx ce, Runs.put L.ld hx (by simp) de, Lst.on hx p⟩
end
theorem prs_fine {ks : List Str} {rows : List Row} (h : ∀ r ∈ rows, isRow ks r = true) : Fine ks (prs rows) := by
  refine ⟨fun p hp => ?_, ?_⟩
  · obtain ⟨i, hi, rfl⟩ := List.mem_map.mp hp
    rw [List.mem_range] at hi
    refine h _ ?_
    rw [List.getD_eq_getElem?_getD, List.getElem?_eq_getElem hi]
    exact List.getElem_mem hi
  · unfold prs
    rw [List.map_map]
    exact nodup_cast (l := List.range rows.length) List.nodup_range
theorem prs_len {rows : List Row} : (prs rows).length = rows.length := by simp [prs]
abbrev N_law_runs : List Str := ["_law_order_here", "_law_size", "_law_rows_here", "_law_left", "_law_here", "_law_late", "_law_found", "_law_run", "_law_over", "_law_pair"]
abbrev P_law_runs : List Str := ["_law_order_here", "_law_size", "_law_rows_here"]
def sp_law_runs (K : PySem.W.Frag) : Sp := fun vs H Q E => match vs with
  | [ov, sz, rv] => ∃ ks o size rows, LstV TurnAt H ov o ∧ sz = .int size ∧ LstV RowAt H rv rows ∧ (∀ t ∈ o, t.1 < ks.length) ∧ (∀ r ∈ rows, isRow ks r = true) ∧ ks.length ≤ 4 ∧ 1 ≤ size ∧ rows.length ≤ 900 ∧
    ∀ f H', H f = none → Lst (RunAt H []) H' f (runsOf o size (prs rows)) → Same H H' → Q (.ref f) H'
  | _ => False
def t_law_runs (K : PySem.W.Frag) (E : XK) : TS := (tSeq (tAsg (tCall (sp_law_pairs K) [] E (tCons (tVar 2) tNil)) (gName 3))
  (tSeq (tPar 4 5 (tCons (tLst tNil) (tCons (tLst tNil) tNil)))
   (tSeq (tAsg (tLst tNil) (gName 6))
    (tSeq (tWhile (tOr (tTest (tOp (xNeE K) (tVar 3) (tLst tNil))) (tOr (tTest (tOp (xNeE K) (tVar 4) (tLst tNil))) (tTest (tOp (xNeE K) (tVar 5) (tLst tNil))))) 
       (tSeq (tPar 4 5 (tCons (tVar 5) (tCons (tLst tNil) tNil)))
       (tSeq (tAsg (tLst tNil) (gName 7))
        (tSeq (tAsg (tC (.bl false)) (gName 8))
         (tSeq (tWhile (tNot (tB (tVar 8))) 
            (tSeq (tWhile (tAnd (tTest (tOp (xNeE K) (tVar 3) (tLst tNil))) (tTest (tOp xLt (tOp xAdd (tCB1 (xLen K) (tVar 4)) (tCB1 (xLen K) (tVar 5))) (tVar 1)))) 
              (tSeq (tAsg (tBM K "list" rPopAt (tVar 3) (tConsC (.int 0) tNil)) (gName 9))
              (tIfS (tAnd (tTest (tOp (xNeE K) (tVar 7) (tLst tNil))) (tB (tCall (sp_law_ahead K) [] E (tCons (tVar 0) (tCons (tVar 9) (tCons (tOpC (rIxL K) (tVar 7) (.int (-1))) tNil)))))) (tDrop (tBM K "list" rAppend (tVar 5) (tCons (tVar 9) tNil))) (tDrop (tBM K "list" rAppend (tVar 4) (tCons (tVar 9) tNil))))))
            (tSeq (tAsg (tOp (xEqE K) (tVar 4) (tLst tNil)) (gName 8))
             (tIfS (tNot (tB (tVar 8))) (tDrop (tBM K "list" rAppend (tVar 7) (tCons (tBM K "list" rPopAt (tVar 4) (tCons (tBM K "list" (rIndexD K) (tVar 4) (tCons (tOpC (rIxL K) (tCall (sp_law_sorted K) [] E (tCons (tVar 0) (tCons (tVar 4) tNil))) (.int 0)) tNil)) tNil)) tNil))) tNext))))
          (tDrop (tBM K "list" rAppend (tVar 6) (tCons (tVar 7) tNil))))))))
     (tRet (tVar 6))))))
/-- xs != [] of the list at slot i -/
theorem ne_test {K : PySem.W.Frag} {σ : L2.St} {H : Hp} {l : Addr} {xs : List V} {i : Nat} {Q : Bool → Hp → Prop} (hσ : σ[i]? = some (some (.ref l))) (h : H l = some (.lst xs)) (q : ∀ H', Same H H' → Q (!xs.isEmpty) H') : (tTest (tOp (xNeE K) (tVar i) (tLst tNil))) σ H Q :=
  ⟨_, hσ, sz0, fun p hp => neE h hp rfl ⟨_, rfl, q _ (Rs.Same.new hp)⟩⟩
theorem or_test {K : PySem.W.Frag} {σ : L2.St} {H : Hp} {l : Addr} {xs : List V} {i : Nat} {u : TT} {Q : Bool → Hp → Prop} (hσ : σ[i]? = some (some (.ref l))) (h : H l = some (.lst xs)) (q1 : xs ≠ [] → ∀ H', Same H H' → Q true H') (q2 : xs = [] → ∀ H', Same H H' → u σ H' Q) : (tOr (tTest (tOp (xNeE K) (tVar i) (tLst tNil))) u) σ H Q := by
  refine ne_test (K := K) hσ h fun H' s => ?_
  cases xs with
  | nil => exact q2 rfl _ s
  | cons x xs => exact q1 (by simp) _ s
theorem pure_law_runs {K : PySem.W.Frag} : ∀ vs H Q E, sp_law_runs K vs H Q E → t_law_runs K E { nx := fun _ H' => Q .non H', rt := Q } (start N_law_runs vs) H := by
  intro vs H Q E h
  match vs, h with
  | [ov, sz, rv], h =>
    obtain ⟨ks, o, size, rows, ho, rfl, hrows, hcol, hgood, hks, hs1, hlen, k⟩ := h
    refine ⟨_, rfl, rows, hrows, by omega, fun ll H1 hll L1 s1 => ?_⟩
    refine ⟨sz0, fun lh hlh => ⟨sz0, fun lt hlt => ⟨_, _, rfl, ?_⟩⟩⟩
    refine ⟨sz0, fun lf hlf => ?_⟩
    have s2 := s1.trans (Rs.Same.new (o := .lst []) hlh)
    have s3 := s2.trans (Rs.Same.new (o := .lst []) hlt)
    have s4 := s3.trans (Rs.Same.new (o := .lst []) hlf)
    have flh := s1.free hlh
    have flt := s2.free hlt
    have flf := s3.free hlf
    generalize hH4 : upd (upd (upd H1 lh (.lst [])) lt (.lst [])) lf (.lst []) = H4 at s4
    have nlh : ll ≠ lh := by obtain ⟨_, e, _⟩ := L1; exact ne_of_none e hlh
    have L1' : Lst PairAt H4 ll (prs rows) := by
      rw [← hH4]
      exact ((L1.same PairAt.st (Rs.Same.new hlh)).same PairAt.st (Rs.Same.new hlt)).same PairAt.st (Rs.Same.new hlf)
    have nfh : lh ≠ lf := ne_of_none (un upd_same hlt) hlf
    have nft : lt ≠ lf := ne_of_none upd_same hlf
    have nht : lh ≠ lt := ne_of_none upd_same hlt
    have nlt : ll ≠ lt := by obtain ⟨_, e, _⟩ := L1; exact ne_of_none (un e hlh) hlt
    have nlf : ll ≠ lf := by obtain ⟨_, e, _⟩ := L1; exact ne_of_none (un (un e hlh) hlt) hlf
    have Lh : Lst PairAt H4 lh [] := ⟨[], by rw [← hH4]; exact up (up upd_same nht) nfh, .nil⟩
    have Lt : Lst PairAt H4 lt [] := ⟨[], by rw [← hH4]; exact up upd_same nft, .nil⟩
    have Lf : Lst (RunAt H [ll, lt, lf]) H4 lf [] := ⟨[], by rw [← hH4]; exact upd_same, .nil⟩
    have pf := prs_fine hgood
    have pl := prs_len (rows := rows)
    generalize hR : runsOf o size (prs rows) = R at k
    refine ⟨fun n σ H' => ∃ (lh lt : Addr) (left late : List Pr) (found : List (List Pr)) (x7 x8 x9 : Option V), σ = [some ov, some (.int size), some rv, some (.ref ll), some (.ref lh), some (.ref lt), some (.ref lf), x7, x8, x9] ∧ Same H H' ∧ H lt = none ∧ ll ≠ lt ∧ lt ≠ lf ∧ Lst PairAt H' ll left ∧ Lst PairAt H' lh [] ∧ Lst PairAt H' lt late ∧ Lst (RunAt H [ll, lt, lf]) H' lf found ∧
        Fine ks (left ++ late) ∧ left.length + late.length < n ∧ left.length + late.length ≤ 900 ∧ found.length + n ≤ 1000 ∧ outer o size n left late found = R,
      ⟨(prs rows).length + 1, lh, lt, prs rows, [], [], none, none, none, rfl, s4, flt, nlt, nft, L1', Lh, Lt, Lf, by rw [List.append_nil]; exact pf, by simp, by rw [List.length_nil]; omega, by rw [List.length_nil]; omega, hR⟩, ?_⟩
    clear Lh Lt Lf L1' hH4 s2 s3 s4 flh flt nlh nfh nft nht nlt hlf hlt hlh L1 s1
    clear lh lt H4
    rintro n σ H2 ⟨lh, lt, left, late, found, x7, x8, x9, rfl, s, flt, nlt, nft, L1, Lh, Lt, Lf, fine, hn, hle, hfn, hout⟩
    obtain ⟨m, rfl⟩ : ∃ m, n = m + 1 := ⟨n - 1, by omega⟩
    obtain ⟨va, ea, pa⟩ := L1
    obtain ⟨vb, eb, pb⟩ := Lh
    obtain ⟨vc, ec, pc⟩ := Lt
    have L1 : Lst PairAt H2 ll left := ⟨va, ea, pa⟩
    have Lh : Lst PairAt H2 lh [] := ⟨vb, eb, pb⟩
    have Lt : Lst PairAt H2 lt late := ⟨vc, ec, pc⟩
    -- the test
    have test : ∀ Q : Bool → Hp → Prop, (∀ H', Same H2 H' → Q (decide (¬ (left = [] ∧ late = []))) H') → (tOr (tTest (tOp (xNeE K) (tVar 3) (tLst tNil))) (tOr (tTest (tOp (xNeE K) (tVar 4) (tLst tNil))) (tTest (tOp (xNeE K) (tVar 5) (tLst tNil)))) : TT)
        [some ov, some (.int size), some rv, some (.ref ll), some (.ref lh), some (.ref lt), some (.ref lf), x7, x8, x9] H2 Q := fun Q q => by
      have la := pa.length
      have lb := pb.length
      have lc := pc.length
      refine or_test (l := ll) rfl ea (fun ne H' s => ?_) fun e1 H3 s3 => or_test (l := lh) rfl (s3 _ _ eb) (fun ne H' s => ?_) fun _ H4 s4 => ne_test (l := lt) rfl ((s3.trans s4) _ _ ec) fun H5 s5 => ?_
      · have e : decide (¬ (left = [] ∧ late = [])) = true := decide_eq_true fun z => ne (by rw [z.1] at la; exact List.length_eq_zero_iff.mp la)
        rw [← e]
        exact q _ s
      · exact absurd (List.length_eq_zero_iff.mp lb) ne
      · have hq := q _ ((s3.trans s4).trans s5)
        rw [e1] at la
        have l0 : left = [] := List.length_eq_zero_iff.mp la.symm
        cases vc with
        | nil =>
          have l1 : late = [] := List.length_eq_zero_iff.mp lc.symm
          have eD : decide (¬ (left = [] ∧ late = [])) = false := by rw [decide_eq_false_iff_not]; exact fun z => z ⟨l0, l1⟩
          rw [eD] at hq
          exact hq
        | cons c cr =>
          have eD : decide (¬ (left = [] ∧ late = [])) = true := decide_eq_true fun z => by rw [z.2] at lc; simp at lc
          rw [eD] at hq
          exact hq
    refine test _ fun H3 s3 => ?_
    dsimp only
    unfold outer at hout
    by_cases hne : left = [] ∧ late = []
    · have eD : decide (¬ (left = [] ∧ late = [])) = false := by rw [decide_eq_false_iff_not]; exact fun z => z hne
      rw [eD]
      rw [if_pos hne] at hout
      subst hout
      exact ⟨_, rfl, k lf _ flf (Runs.sub (Runs.same Lf s3) (by simp)) (s.trans s3)⟩
    have eD : decide (¬ (left = [] ∧ late = [])) = true := decide_eq_true hne
    rw [eD]
    rw [if_neg hne] at hout
    have fine0 : Fine ks (left ++ (late ++ [])) := by rw [List.append_nil]; exact fine
    have kp := inner_keeps (ks := ks) (o := o) (size := size) (left.length + late.length + 1) left late [] [] fine0 (by simp) (by simp)
    have some_ := fill_some o hs1 hne
    generalize hR2 : inner o size (left.length + late.length + 1) left late [] [] = R2 at hout kp
    refine ⟨_, fun σ' H' h => h, ?_⟩
    have sA := s.trans s3
    refine ⟨_, rfl, sz0, fun t ht => ⟨_, _, rfl, ?_⟩⟩
    refine ⟨sz0, fun lr hlr => ?_⟩
    have sB : Same H2 (upd H3 t (.lst [])) := s3.trans (Rs.Same.new ht)
    have sC : Same H2 (upd (upd H3 t (.lst [])) lr (.lst [])) := sB.trans (Rs.Same.new hlr)
    have ft : H t = none := sA.free ht
    have flr : H lr = none := (s.trans sB).free hlr
    have Lf2 : Lst (RunAt H [lr, t, ll, lt, lf]) (upd (upd H3 t (.lst [])) lr (.lst [])) lf found := Runs.same (Runs.new (Runs.same (Runs.new (Runs.same Lf s3) ht) (Rs.Same.new ht)) hlr) (Rs.Same.new hlr)
    have nd : [ll, lt, t, lf, lr].Nodup := by
      have a1 : ll ≠ t := ne_of_none (s3 _ _ ea) ht
      have a2 : lt ≠ t := ne_of_none (s3 _ _ ec) ht
      have a3 : ll ≠ lr := ne_of_none (sB _ _ ea) hlr
      have a4 : lt ≠ lr := ne_of_none (sB _ _ ec) hlr
      obtain ⟨vf, ef, _⟩ := Lf
      have a5 : lf ≠ t := ne_of_none (s3 _ _ ef) ht
      have a6 : lf ≠ lr := ne_of_none (sB _ _ ef) hlr
      have a7 : t ≠ lr := ne_of_none upd_same hlr
      simp only [List.nodup_cons, List.mem_cons, List.not_mem_nil, or_false, not_or, not_false_eq_true, and_true, List.nodup_nil]
      exact ⟨⟨nlt, a1, nlf, a3⟩, ⟨a2, nft, a4⟩, ⟨a5.symm, a7⟩, a6⟩
    have LR0 : LR H (upd (upd H3 t (.lst [])) lr (.lst [])) ll lt t lf lr left late [] found [] := by
      refine ⟨s.trans sC, fun x hx => ?_, nd, L1.same PairAt.st sC, Lt.same PairAt.st sC, ⟨[], un upd_same hlr, .nil⟩, Runs.sub Lf2 ?_, ⟨[], upd_same, .nil⟩⟩
      · simp only [List.mem_cons, List.not_mem_nil, or_false] at hx
        rcases hx with rfl | rfl | rfl | rfl | rfl
        · exact hll
        · exact flt
        · exact ft
        · exact flf
        · exact flr
      · intro y hy
        simp only [List.mem_cons, List.not_mem_nil, or_false] at hy ⊢
        rcases hy with z | z | z | z | z <;> simp [z]
    refine ⟨fun k σ H' => ∃ (left here late : List Pr) (run : List Pr) (over : Bool) (x9 : Option V), σ = [some ov, some (.int size), some rv, some (.ref ll), some (.ref lt), some (.ref t), some (.ref lf), some (.ref lr), some (.bl over), x9] ∧ LR H H' ll lt t lf lr left here late found run ∧ Fine ks (left ++ (here ++ late)) ∧ (∀ q ∈ run, isRow ks q.2 = true) ∧
        left.length + here.length + late.length + run.length ≤ 900 ∧ (over = true → here = [] ∧ (left, late, run) = R2) ∧ (over = false → left.length + here.length + late.length < k ∧ inner o size k left here late run = R2),
      ⟨left.length + late.length + 1, left, late, [], [], false, x9, rfl, LR0, fine0, by simp, by rw [List.length_nil]; omega, fun z => (by cases z), fun _ => ⟨by rw [List.length_nil]; omega, hR2⟩⟩, ?_⟩
    clear LR0 Lf2 sB sC L1 Lh Lt ea eb ec pa pb pc fine0 test
    rintro k' σ H5 ⟨left', here', late', run', over, x9, rfl, L, fine', hrow, htot, hov, hno⟩
    refine ⟨_, rfl, _, rfl, ?_⟩
    cases over with
    | true =>
      obtain ⟨rfl, e2⟩ := hov rfl
      subst e2
      obtain ⟨_, k2, _, _, k5⟩ := kp
      have k6 := k5 some_
      dsimp only at k2 k6 hout
      obtain ⟨vf, ef, pf'⟩ := L.ld
      have lf' := pf'.length
      obtain ⟨⟨q1, q2, q3, q4⟩, ⟨q5, q6, q7⟩, ⟨q8, q9⟩, q10⟩ := nd5 L.nd
      refine ⟨_, rfl, .inl ⟨rfl, _, SqL.of ef⟩, _, rfl, lf, _, _, rfl, rfl, ef, szlt (by omega), ?_⟩
      refine ⟨m, by omega, lt, t, left', late', found ++ [run'], _, _, _, rfl, Rs.Same.mut L.same flf, ft, q2, q8, L.la.off ef q3, L.lb.off ef q6, L.lc.off ef q8, ?_, ?_, ?_, ?_, ?_, hout⟩
      · exact Runs.add ef (P2.mono (fun _ _ q => q.sub (by intro y hy; simp only [List.mem_cons, List.not_mem_nil, or_false] at hy ⊢; rcases hy with z | z | z <;> simp [z])) pf') (by simp) q10.symm flr (by simp only [List.mem_cons, List.not_mem_nil, or_false, not_or]; exact ⟨q4.symm, q9.symm, q10.symm⟩) L.le
      · exact fine'
      · simp only [List.length_nil] at k2 k6; omega
      · simp only [List.length_nil] at k2 k6; omega
      · rw [List.length_append, List.length_singleton]; omega
    | false =>
      obtain ⟨hk, hin⟩ := hno rfl
      obtain ⟨k1, rfl⟩ : ∃ k1, k' = k1 + 1 := ⟨k' - 1, by omega⟩
      unfold inner at hin
      have pm := fill_perm o size run'.getLast? left' here' late'
      generalize hRF : fillL o size run'.getLast? left' here' late' = RF at hin pm
      refine ⟨_, fun σ' H' h => h, ?_⟩
      refine ⟨fun j σ H' => ∃ (left here late : List Pr) (x9 : Option V), j = left.length ∧ σ = [some ov, some (.int size), some rv, some (.ref ll), some (.ref lt), some (.ref t), some (.ref lf), some (.ref lr), some (.bl false), x9] ∧ LR H H' ll lt t lf lr left here late found run' ∧ Fine ks (left ++ (here ++ late)) ∧
          left.length + here.length + late.length = left'.length + here'.length + late'.length ∧ fillL o size run'.getLast? left here late = RF,
        ⟨_, left', here', late', x9, rfl, rfl, L, fine', rfl, hRF⟩, ?_⟩
      clear L fine' x9 hov hno
      rintro j σ H6 ⟨left2, here2, late2, x9, rfl, rfl, L, fine2, hsum, hfill⟩
      obtain ⟨va, ea, pa⟩ := L.la
      obtain ⟨vb, eb, pb⟩ := L.lb
      obtain ⟨vc, ec, pc⟩ := L.lc
      obtain ⟨ve, ee, pe⟩ := L.le
      have la := pa.length
      have lb := pb.length
      have lc := pc.length
      have le := pe.length
      -- no more come in
      have over : ∀ H7, Same H6 H7 → (left2, here2, late2) = RF → ∀ D : Ends, (∀ σ' H', (∃ k'', k'' < k1 + 1 ∧ ∃ (left here late : List Pr) (run : List Pr) (over : Bool) (x9 : Option V), σ' = [some ov, some (.int size), some rv, some (.ref ll), some (.ref lt), some (.ref t), some (.ref lf), some (.ref lr), some (.bl over), x9] ∧ LR H H' ll lt t lf lr left here late found run ∧ Fine ks (left ++ (here ++ late)) ∧ (∀ q ∈ run, isRow ks q.2 = true) ∧
          left.length + here.length + late.length + run.length ≤ 900 ∧ (over = true → here = [] ∧ (left, late, run) = R2) ∧ (over = false → left.length + here.length + late.length < k'' ∧ inner o size k'' left here late run = R2)) → D.nx σ' H') →
          ((tSeq (tAsg (tOp (xEqE K) (tVar 4) (tLst tNil)) (gName 8)) (tIfS (tNot (tB (tVar 8))) (tDrop (tBM K "list" rAppend (tVar 7) (tCons (tBM K "list" rPopAt (tVar 4) (tCons (tBM K "list" (rIndexD K) (tVar 4) (tCons (tOpC (rIxL K) (tCall (sp_law_sorted K) [] E (tCons (tVar 0) (tCons (tVar 4) tNil))) (.int 0)) tNil)) tNil)) tNil))) tNext)) : TS) D
          [some ov, some (.int size), some rv, some (.ref ll), some (.ref lt), some (.ref t), some (.ref lf), some (.ref lr), some (.bl false), x9] H7 := by
        intro H7 s7 eRF D hD
        subst eRF
        dsimp only at hin
        refine ⟨_, rfl, sz0, fun p hp => eqE (s7 _ _ eb) hp (b := decide (here2 = [])) (by cases vb <;> cases here2 <;> first | rfl | simp at lb) ⟨_, rfl, _, rfl, ?_⟩⟩
        have L8 := (L.on s7).on (Rs.Same.new (o := .lst []) hp)
        have s8 : Same H6 (upd H7 p (.lst [])) := s7.trans (Rs.Same.new hp)
        by_cases hh : here2 = []
        · rw [decide_eq_true hh]
          rw [if_pos hh] at hin
          exact hD _ _ ⟨0, by omega, left2, here2, late2, run', true, x9, rfl, L8, fine2, hrow, by omega, fun _ => ⟨hh, hin⟩, fun z => by cases z⟩
        rw [decide_eq_false hh]
        rw [if_neg hh] at hin
        have hm := mn_mem o hh
        have fh : Fine ks here2 := fine2.right.left
        refine ⟨_, rfl, .inl ⟨rfl, _, SqL.of (s8 _ _ ee)⟩, _, rfl, .inl ⟨rfl, _, SqL.of (s8 _ _ eb)⟩, _, rfl, .inl ⟨rfl, _, SqL.of (s8 _ _ eb)⟩, _, rfl, _, rfl, ?_⟩
        refine ⟨ks, o, here2, LstV.same TurnAt.st L8.same ho, ⟨lt, rfl, L8.lb⟩, hcol, fh, by omega, fun f ys H9 nf hys pys uys s9 => ?_⟩
        have eys := srt_eq hcol fh pys uys
        subst eys
        obtain ⟨yv, ey, py⟩ := hys
        have L9 := L8.on s9
        have hlt : 0 < (srt o here2).length := by
          rw [(srt_perm o here2).length_eq]
          exact List.length_pos_iff.mpr hh
        obtain ⟨v0, hv0, r0⟩ := P2.get' py (List.getElem?_eq_getElem hlt)
        have e0 : (srt o here2)[0] = mn o here2 := (getD_lt (d := c0.2) hlt).symm
        rw [e0] at r0
        refine ixL ey (j := 0) rfl hv0 ?_
        obtain ⟨j, hj⟩ := List.mem_iff_getElem?.mp hm
        have hjl := (List.getElem?_eq_some_iff.mp hj).1
        obtain ⟨vb9, eb9, pb9⟩ := L9.lb
        obtain ⟨ve9, ee9, pe9⟩ := L9.le
        have lb9 := pb9.length
        have le9 := pe9.length
        obtain ⟨w, hw, rw_⟩ := P2.get' pb9 hj
        have okh : ∀ q ∈ here2, okD 3 (pairD q) := fun q hq => pair_ok (fh.row q hq) (by omega) 0
        refine ⟨lt, v0, pairD (mn o here2), here2.map pairD, j, pairD (mn o here2), rfl, rfl, lst_dp (fun _ _ => pair_dp) L9.lb, pair_dp r0, (list_ok (n := 3) (by omega) okh).shaped (by decide), (okh _ hm).shaped (by decide), by rw [List.getElem?_map, hj]; rfl, (okh _ hm).eqv, ?_, ?_⟩
        · intro i z hi hz
          rw [List.getElem?_map] at hz
          obtain ⟨q, hq, rfl⟩ := Option.map_eq_some_iff.mp hz
          refine pair_uneq fun e => ?_
          have hil := (List.getElem?_eq_some_iff.mp hq).1
          have hn := List.pairwise_iff_getElem.mp (show List.Pairwise (· ≠ ·) (here2.map (·.1)) from fh.nd) i j (by rw [List.length_map]; exact hil) (by rw [List.length_map]; exact hjl) hi
          rw [List.getElem_map, List.getElem_map] at hn
          have g1 : here2[i] = q := by rw [List.getElem?_eq_getElem hil] at hq; exact Option.some.inj hq
          have g2 : here2[j] = mn o here2 := by rw [List.getElem?_eq_getElem hjl] at hj; exact Option.some.inj hj
          rw [g1, g2] at hn
          exact hn e
        refine ⟨lt, _, _, j, w, rfl, rfl, eb9, by omega, by omega, seqIx (by omega), hw, ?_⟩
        have pbe := P2.erase j pb9
        rw [out_erase fh.nd hj] at pbe
        have L10 := L9.pb pbe
        obtain ⟨⟨q1, q2, q3, q4⟩, ⟨q5, q6, q7⟩, ⟨q8, q9⟩, q10⟩ := nd5 L.nd
        refine ⟨lr, _, _, rfl, rfl, up ee9 q7.symm, szlt (by omega), hD _ _ ?_⟩
        have tt : TupLe H9 (upd H9 lt (.lst (vb9.eraseIdx j))) := (TupLe.refl _).list eb9
        have L11 := L10.pe (P2.app (Paired.tl PairAt.st tt pe9) (P2.one (PairAt.st _ _ _ _ tt rw_)))
        have op := out_perm fh.nd hm
        have ol := op.length_eq
        rw [List.length_cons] at ol
        refine ⟨k1, by omega, left2, outN (mn o here2).1 here2, late2, run' ++ [mn o here2], false, x9, rfl, L11, ?_, ?_, ?_, fun z => (by cases z), fun _ => ⟨by omega, hin⟩⟩
        · exact fine2.sub (List.Sublist.append (.refl _) (List.Sublist.append List.filter_sublist (.refl _)))
        · intro q hq
          rcases List.mem_append.mp hq with z | z
          · exact hrow q z
          · rw [List.mem_singleton.mp z]; exact fh.row _ hm
        · rw [List.length_append, List.length_singleton]; omega
      refine ne_test (l := ll) rfl ea fun H7 s7 => ?_
      cases left2 with
      | nil =>
        cases va with
        | cons _ _ => simp at la
        | nil => exact over H7 s7 hfill _ fun _ _ h => h
      | cons p left3 =>
        cases va with
        | nil => simp at la
        | cons v va =>
        refine ⟨_, rfl, lenL (s7 _ _ eb) rfl ⟨_, rfl, lenL (s7 _ _ ec) rfl ⟨_, _, rfl, rfl, _, rfl, _, _, rfl, rfl, _, rfl, ?_⟩⟩⟩
        unfold fillL at hfill
        by_cases hsp : (here2.length : Int) + (late2.length : Int) < size
        · rw [if_pos hsp] at hfill
          rw [decide_eq_true (by rw [lb, lc]; exact hsp)]
          have L7 := L.on s7
          obtain ⟨va7, ea7, pa7⟩ := L7.la
          have va7e : va7 = v :: va := by
            have := s7 _ _ ea
            rw [this] at ea7
            injection ea7 with z
            injection z with z
            exact z.symm
          subst va7e
          cases pa7 with
          | cons hv7 pa8 =>
          refine ⟨_, fun σ' H' h => h, ?_⟩
          refine ⟨_, rfl, .inl ⟨rfl, _, SqL.of ea7⟩, ll, _, 0, 0, v, rfl, rfl, ea7, by decide, by decide, seqIx (j := 0) (by simp), rfl, ?_⟩
          have L8 := L7.pa (vs := va) pa8
          have t8 : TupLe H7 (upd H7 ll (.lst va)) := (TupLe.refl _).list ea7
          have hv8 := PairAt.st _ _ _ _ t8 hv7
          have t68 : TupLe H6 (upd H7 ll (.lst va)) := (TupLe.same s7).trans t8
          have s8 := L8.same
          have rp : isRow ks p.2 = true := fine2.row p (by simp)
          have sum2 : left3.length + 1 + here2.length + late2.length = left'.length + here'.length + late'.length := by
            rw [List.length_cons] at hsum
            omega
          have appB : Rs.late o p run'.getLast? = false → ∀ H9, Same (upd H7 ll (.lst va)) H9 → ∀ D : Ends, (∀ σ' H', (∃ m', m' < (p :: left3).length ∧ ∃ (left here late : List Pr) (x9 : Option V), m' = left.length ∧ σ' = [some ov, some (.int size), some rv, some (.ref ll), some (.ref lt), some (.ref t), some (.ref lf), some (.ref lr), some (.bl false), x9] ∧ LR H H' ll lt t lf lr left here late found run' ∧ Fine ks (left ++ (here ++ late)) ∧
              left.length + here.length + late.length = left'.length + here'.length + late'.length ∧ fillL o size run'.getLast? left here late = RF) → D.nx σ' H') →
              (tDrop (tBM K "list" rAppend (tVar 4) (tCons (tVar 9) tNil))) D [some ov, some (.int size), some rv, some (.ref ll), some (.ref lt), some (.ref t), some (.ref lf), some (.ref lr), some (.bl false), some v] H9 := by
            intro el H9 s9 D hD
            have L9 := L8.on s9
            obtain ⟨vb9, eb9, pb9⟩ := L9.lb
            have lb9 := pb9.length
            refine ⟨_, rfl, .inl ⟨rfl, _, SqL.of eb9⟩, _, rfl, lt, _, _, rfl, rfl, eb9, szlt (by omega), hD _ _ ?_⟩
            rw [el] at hfill
            refine ⟨left3.length, by simp, left3, here2 ++ [p], late2, _, rfl, rfl, L9.pb (P2.app pb9 (P2.one (PairAt.st _ _ _ _ (TupLe.same s9) hv8))), fine2.perm ?_, by rw [List.length_append, List.length_singleton]; omega, hfill⟩
            rw [List.append_assoc]
            have q : (left3 ++ (here2 ++ ([p] ++ late2))).Perm (left3 ++ ([p] ++ (here2 ++ late2))) := by
              refine List.Perm.append_left _ ?_
              rw [← List.append_assoc, ← List.append_assoc]
              exact List.Perm.append_right _ List.perm_append_comm
            exact q.trans List.perm_middle
          have ee8 : ∃ ve8, upd H7 ll (.lst va) lr = some (.lst ve8) ∧ Paired (PairAt (upd H7 ll (.lst va))) ve8 run' := L8.le
          obtain ⟨ve8, ee8, pe8⟩ := ee8
          refine ne_test (l := lr) rfl ee8 fun H9 s9 => ?_
          have hcase : run'.getLast? = none ∨ ∃ x, run'.getLast? = some x := by cases run'.getLast? with
            | none => exact .inl rfl
            | some x => exact .inr ⟨x, rfl⟩
          rcases hcase with hrl | ⟨x, hrl⟩
          ·
            have er : run' = [] := List.getLast?_eq_none_iff.mp hrl
            subst er
            cases pe8
            exact appB (by rw [hrl]; rfl) H9 s9 _ fun _ _ h => h
          · obtain ⟨r0, er⟩ := List.getLast?_eq_some_iff.mp hrl
            have hve : ve8 ≠ [] := by intro z; rw [z, er] at pe8; have := pe8.length; simp at this
            obtain ⟨w0, wx, ew⟩ : ∃ w0 wx, ve8 = w0 ++ [wx] := ⟨ve8.dropLast, ve8.getLast hve, (List.dropLast_concat_getLast hve).symm⟩
            subst ew
            have hx : PairAt (upd H7 ll (.lst va)) wx x := by rw [er] at pe8; exact P2.last pe8
            have en : (!(w0 ++ [wx]).isEmpty) = true := by cases w0 <;> rfl
            rw [en]
            have rx : isRow ks x.2 = true := hrow x (by rw [er]; simp)
            refine ⟨_, rfl, _, rfl, _, rfl, ixLast (s9 _ _ ee8) ?_⟩
            refine ⟨o, p, x, LstV.same TurnAt.st (s8.trans s9) ho, PairAt.st _ _ _ _ (TupLe.same s9) hv8, PairAt.st _ _ _ _ (TupLe.same s9) hx, cmp_of hcol rp rx, _, rfl, ?_⟩
            cases hb : before o p x with
            | false => exact appB (by rw [hrl]; exact hb) H9 s9 _ fun _ _ h => h
            | true =>
              have L9 := L8.on s9
              obtain ⟨vc9, ec9, pc9⟩ := L9.lc
              have lc9 := pc9.length
              have el : Rs.late o p run'.getLast? = true := by rw [hrl]; exact hb
              rw [el] at hfill
              refine ⟨_, rfl, .inl ⟨rfl, _, SqL.of ec9⟩, _, rfl, t, _, _, rfl, rfl, ec9, szlt (by omega), ?_⟩
              refine ⟨left3.length, by simp, left3, here2, late2 ++ [p], _, rfl, rfl, L9.pc (P2.app pc9 (P2.one (PairAt.st _ _ _ _ (TupLe.same s9) hv8))), fine2.perm ?_, by rw [List.length_append, List.length_singleton]; omega, hfill⟩
              have e : left3 ++ (here2 ++ (late2 ++ [p])) = (left3 ++ (here2 ++ late2)) ++ [p] := by simp
              rw [e]
              exact List.perm_append_comm (l₂ := [p])
        · rw [if_neg hsp] at hfill
          rw [decide_eq_false (by rw [lb, lc]; exact hsp)]
          exact over H7 s7 hfill _ fun _ _ h => h
end Rs

namespace Rs
open PySem PySem.Spec PyProof.Rows L2
abbrev N_need_making : List Str := ["kinds", "order", "size", "rows"]
abbrev P_need_making : List Str := ["kinds", "order", "size", "rows"]
def sp_need_making (K : PySem.W.Frag) : Sp := fun vs H Q E => match vs with
  | [kv, ov, sz, rv] => ∃ ks o size rows, KindsAt H kv ks ∧ GoodKinds ks ∧ LstV TurnAt H ov o ∧ GoodOrd ks o ∧ o.length ≤ 1000 ∧ sz = .int size ∧ 1 ≤ size ∧ size ≤ 24 ∧ LstV RowAt H rv rows ∧ (∀ r ∈ rows, isRow ks r = true) ∧ rows.length ≤ 120 ∧ ∀ H', Same H H' → Q .non H'
  | _ => False
def t_need_making (K : PySem.W.Frag) (E : XK) : TS := (tSeq (tDrop (tCall (sp_need_kinds K) [] E (tCons (tVar 0) tNil)))
  (tSeq (tDrop (tCall (sp_need_order K) [] E (tCons (tVar 0) (tCons (tVar 1) tNil))))
   (tSeq (tIfS (tNot (tTest (tChain xLe xLe (tC (.int 1)) (tVar 2) (tC (.int 24))))) tNever tNext)
    (tDrop (tCall (sp_need_rows K) [] E (tCons (tVar 0) (tCons (tVar 3) (tConsC (.int 120) tNil))))))))
theorem KindsAt.st : Stable KindsAt := fun _ _ _ _ t h => IsTp.mono t h
theorem KindsAt.same {H H' : Hp} {v : V} {ks : List Str} (h : KindsAt H v ks) (s : Same H H') : KindsAt H' v ks := KindsAt.st _ _ _ _ (TupLe.same s) h
theorem pure_need_making {K : PySem.W.Frag} : ∀ vs H Q E, sp_need_making K vs H Q E → t_need_making K E { nx := fun _ H' => Q .non H', rt := Q } (start N_need_making vs) H := by
  intro vs H Q E h
  match vs, h with
  | [kv, ov, sz, rv], h =>
    obtain ⟨ks, o, size, rows, hk, gk, ho, go, hol, rfl, h1, h2, hr, hgood, hlen, k⟩ := h
    refine ⟨_, rfl, ks, hk, gk, fun H1 s1 => ?_⟩
    refine ⟨_, rfl, _, rfl, ks, o, hk.same s1, LstV.same TurnAt.st s1 ho, go, hol, fun H2 s2 => ?_⟩
    have s12 := s1.trans s2
    refine ⟨_, rfl, _, _, rfl, rfl, _, rfl, ?_⟩
    rw [decide_eq_true h1]
    refine ⟨_, _, rfl, rfl, _, rfl, ?_⟩
    rw [decide_eq_true h2]
    refine ⟨_, rfl, _, rfl, ?_⟩
    exact ⟨ks, rows, 120, hk.same s12, LstV.same RowAt.st s12 hr, rfl, gk.le, hgood, by omega, fun H3 s3 => k _ (s12.trans s3)⟩
abbrev N_filled : List Str := ["kinds", "order", "size", "rows", "pairs", "begin"]
abbrev P_filled : List Str := ["kinds", "order", "size", "rows"]
/-- the i-th slice of so many -/
def slc (size : Int) (xs : List Pr) (i : Nat) : List Pr := (xs.drop (i * size.toNat)).take size.toNat
def nslc (size : Int) (n : Nat) : Nat := (((n : Int) + size - 1) / size).toNat
def parts (o : Ord) (size : Int) (xs : List Pr) : List (List Pr) := (List.range (nslc size xs.length)).map fun i => srt o (slc size xs i)
theorem nslc_le {size : Int} {n : Nat} (h1 : 1 ≤ size) : nslc size n ≤ n := by
  unfold nslc
  by_cases h0 : n = 0
  · subst h0
    rw [Int.ediv_eq_zero_of_lt (by omega) (by omega)]
    simp
  · have e : (n : Int) * size - n - size + 1 = (n - 1) * (size - 1) := by
      rw [Int.sub_mul, Int.mul_sub, Int.mul_sub]; omega
    have q := Int.mul_nonneg (a := (n : Int) - 1) (b := size - 1) (by omega) (by omega)
    have := Int.ediv_le_of_le_mul (a := (n : Int) + size - 1) (b := (n : Int)) (c := size) (by omega) (by omega)
    omega
theorem rgc_step {n : Nat} {c : Int} (h1 : 1 ≤ c) (h2 : c ≤ 1000) (hl : n ≤ 1000) : RgC 0 (n : Int) c (nslc c n) := by
  have e := rangeSize_pos (len := (n : Int)) (c := c) h1 (by omega)
  have q0 : 0 ≤ ((n : Int) + c - 1) / c := Int.ediv_nonneg (by omega) (by omega)
  have q1 : ((n : Int) + c - 1) / c ≤ (n : Int) + c - 1 := Int.ediv_le_self _ (by omega)
  refine ⟨by omega, by omega, ?_, by rw [e]; unfold nslc; omega⟩
  unfold Builtin.Range.small
  rw [e]
  simp only [Builtin.Range.rangeFitsLong, Bool.and_eq_true, Bool.or_eq_true, decide_eq_true_eq, beq_iff_eq, show c > 0 by omega, if_true]
  refine ⟨⟨⟨⟨?_, ?_⟩, ?_⟩, ?_⟩, .inr ?_⟩ <;> omega
def sp_filled (K : PySem.W.Frag) : Sp := fun vs H Q E => match vs with
  | [kv, ov, sz, rv] => ∃ ks o size rows, KindsAt H kv ks ∧ GoodKinds ks ∧ LstV TurnAt H ov o ∧ GoodOrd ks o ∧ o.length ≤ 1000 ∧ sz = .int size ∧ 1 ≤ size ∧ size ≤ 24 ∧ LstV RowAt H rv rows ∧ (∀ r ∈ rows, isRow ks r = true) ∧ rows.length ≤ 120 ∧
    ∀ f H', H f = none → Lst (RunAt H []) H' f (parts o size (prs rows)) → Same H H' → Q (.ref f) H'
  | _ => False
def t_filled (K : PySem.W.Frag) (E : XK) : TS := (tSeq (tDrop (tCall (sp_need_making K) [] E (tCons (tVar 0) (tCons (tVar 1) (tCons (tVar 2) (tCons (tVar 3) tNil))))))
  (tSeq (tAsg (tCall (sp_numbered K) [] E (tCons (tVar 3) tNil)) (gName 4))
   (tRet (tLc (iRng3 (tConsC (.int 0) (tCons (tCB1 (xLen K) (tVar 4)) (tCons (tVar 2) tNil)))) (gName 5) tYes (tCall (sp_in_order K) [] E0 (tCons (tCB1 (xList K) (tVar 1)) (tCons (tSl (rSlL K) (tVar 4) (tPart (tVar 5)) (tPart (tOp xAdd (tVar 5) (tVar 2)))) tNil))) [5]))))
theorem slc_len {size : Int} {xs : List Pr} {i : Nat} : (slc size xs i).length ≤ size.toNat := by
  unfold slc
  rw [List.length_take]
  omega
theorem pure_filled {K : PySem.W.Frag} : ∀ vs H Q E, sp_filled K vs H Q E → t_filled K E { nx := fun _ H' => Q .non H', rt := Q } (start N_filled vs) H := by
  intro vs H Q E h
  match vs, h with
  | [kv, ov, sz, rv], h =>
    obtain ⟨ks, o, size, rows, hk, gk, ho, go, hol, rfl, h1, h2, hr, hgood, hlen, k⟩ := h
    refine ⟨_, rfl, _, rfl, _, rfl, _, rfl, ks, o, size, rows, hk, gk, ho, go, hol, rfl, h1, h2, hr, hgood, hlen, fun H1 s1 => ?_⟩
    refine ⟨_, rfl, rows, LstV.same RowAt.st s1 hr, by omega, fun lp H2 hlp L2 s2 => ?_⟩
    obtain ⟨pv, ep, pp⟩ := L2
    have pl := pp.length
    rw [prs_len] at pl
    have s12 := s1.trans s2
    refine ⟨_, rfl, lenL ep rfl ⟨_, rfl, 0, _, size, _, rfl, rgc_step h1 (by omega) (by omega), fun D hD => ?_⟩⟩
    have pf := prs_fine hgood
    have hD0 : H D = none := s12.free hD
    refine lc_it (walk_rangeC) (fun i H' => ∃ vs, H' D = some (.lst vs) ∧ Paired (RunAt H [D] H') vs ((List.range i).map fun i => srt o (slc size (prs rows) i)) ∧ Same H2 H') ⟨[], upd_same, .nil, Rs.Same.new hD⟩ (fun _ _ _ _ => trivial) ?_ ?_
    · rintro i x H4 H3 hi ⟨vs, hd, hp, s3⟩ ⟨rfl, rfl⟩
      have hvl := hp.length
      rw [List.length_map, List.length_range] at hvl
      have nl := nslc_le (n := pv.length) h1
      refine ⟨rfl, lc_yes ?_⟩
      obtain ⟨lo, rfl, L⟩ := ho
      obtain ⟨ov, eo, po⟩ := L
      refine ⟨_, rfl, _, _, rfl, .inl (SqL.of ((s12.trans s3) _ _ eo)), fun q hq => ?_⟩
      have s4 := s3.trans (Rs.Same.new (o := .lst ov) hq)
      refine ⟨_, rfl, _, rfl, _, rfl, _, rfl, _, rfl, _, _, rfl, rfl, _, rfl, _, _, rfl, SqL.of (s4 _ _ ep), fun r hr => ?_⟩
      have s5 := s4.trans (Rs.Same.new (o := .lst (cutV pv (some (0 + (i : Nat) * size)) (some (0 + (i : Nat) * size + size)))) hr)
      have ecut : cutV pv (some (0 + (i : Nat) * size)) (some (0 + (i : Nat) * size + size)) = (pv.drop (i * size.toNat)).take size.toNat := by
        have e1 : (0 + (i : Nat) * size : Int) = ((i * size.toNat : Nat) : Int) := by
          rw [Int.natCast_mul, Int.toNat_of_nonneg (by omega)]; omega
        have e2 : (0 + (i : Nat) * size + size : Int) = ((i * size.toNat + size.toNat : Nat) : Int) := by
          rw [Int.natCast_add, ← e1, Int.toNat_of_nonneg (by omega)]
        rw [e2, e1, cut_mid, Nat.add_sub_cancel_left]
      rw [ecut] at s5 ⊢
      have t5 := TupLe.same s5
      have t25 := TupLe.same (s12.trans s5)
      refine ⟨ks, o, slc size (prs rows) i, ⟨q, rfl, ov, un upd_same hr, Paired.tl TurnAt.st t25 po⟩, ⟨r, rfl, _, upd_same, Paired.tl PairAt.st t5 (P2.take _ (P2.drop _ pp))⟩, go.col, (pf.drop _).take _, ?_, fun f ys H6 nf hys pys uys s6 => ?_⟩
      · have := slc_len (size := size) (xs := prs rows) (i := i)
        show _ ≤ 256
        omega
      have eys : ys = srt o (slc size (prs rows) i) := srt_eq go.col ((pf.drop _).take _) pys uys
      have s26 := s5.trans s6
      have hd5 := s6 _ _ (un (u := .lst ((pv.drop (i * size.toNat)).take size.toNat)) (un (u := .lst ov) hd hq) hr)
      refine ⟨_, hd5, szlt (by omega), _, upd_same, ?_, Rs.Same.mut s26 hD⟩
      rw [List.range_succ, List.map_append]
      have tD : TupLe H6 (upd H6 D (.lst (vs ++ [.ref f]))) := (TupLe.refl _).list hd5
      have nfD : f ≠ D := (ne_of_none (un (un hd hq) hr) nf).symm
      have s26' : Same H3 H6 := ((Rs.Same.new (o := .lst ov) hq).trans (Rs.Same.new hr)).trans s6
      have hp' : Paired (RunAt H [D] (upd H6 D (.lst (vs ++ [.ref f])))) vs ((List.range i).map fun i => srt o (slc size (prs rows) i)) := P2.mono (F := RunAt H [D] H3) (fun _ _ q => (q.keep (TupLe.same s26') fun l _ _ => s26' l).keep tD fun l _ hl o e => up e fun z => hl (by rw [z]; simp)) hp
      refine P2.app hp' (P2.one ⟨f, rfl, (s12.trans s5).free nf, by simpa using nfD, ?_⟩)
      subst eys
      exact hys.off hd5 nfD
    · rintro H3 ⟨vs, hd, hp, s3⟩
      refine k D H3 hD0 ⟨vs, hd, P2.mono (F := RunAt H [D] H3) (fun _ _ q => q.sub (by simp)) ?_⟩ (s12.trans s3)
      rw [pl] at hp
      unfold parts
      rw [prs_len]
      exact hp
end Rs

namespace Rs
open PySem PySem.Spec PyProof.Rows L2
/-! ### a maker, those left, the runs, the run -/
structure EX (K : PySem.W.Frag) (H0 H : Hp) (p lo pr lc a d e : Addr) (o : Ord) (size : Int) (cs : List Cell) (k : Int) (last : Option Pr) (left : List Pr) (found : List (List Pr)) (run : List Pr) : Prop where
  same : Same H0 H
  fr : ∀ x ∈ [p, lc, a, d, e], H0 x = none
  nd : [lc, a, d, e].Nodup
  mm : MakerS K H p lo pr lc o size cs k last
  la : Lst PairAt H a left
  ld : Lst (RunAt H0 [lc, a, d, e]) H d found
  le : Lst PairAt H e run
section
variable {K : PySem.W.Frag} {H0 H H' : Hp} {p lo pr lc a d e : Addr} {o : Ord} {size : Int} {cs cs' : List Cell} {k k' : Int} {last last' : Option Pr} {left left' : List Pr} {found : List (List Pr)} {run run' : List Pr} {vs : List V}
theorem nd4 (h : [lc, a, d, e].Nodup) : ((lc ≠ a ∧ lc ≠ d ∧ lc ≠ e) ∧ (a ≠ d ∧ a ≠ e) ∧ d ≠ e) := by simpa using h
theorem MakerS.nl (M : MakerS K H p lo pr lc o size cs k last) {x : Addr} {ys : List V} (h : H x = some (.lst ys)) : x ≠ p ∧ x ≠ pr := by
  obtain ⟨vl, ⟨dx, e⟩, _⟩ := M.ob
  obtain ⟨dr, e2⟩ := M.room.ob
  exact ⟨ne_of h e (by intro z; cases z), ne_of h e2 (by intro z; cases z)⟩
theorem EX.on (L : EX K H0 H p lo pr lc a d e o size cs k last left found run) (s : Same H H') : EX K H0 H' p lo pr lc a d e o size cs k last left found run := ⟨L.same.trans s, L.fr, L.nd, L.mm.same s, L.la.same PairAt.st s, Runs.same L.ld s, L.le.same PairAt.st s⟩
/-- the maker has done something -/
theorem EX.made (L : EX K H0 H p lo pr lc a d e o size cs k last left found run) (b : But [p, lc] H H') (M : MakerS K H' p lo pr lc o size cs' k' last') : EX K H0 H' p lo pr lc a d e o size cs' k' last' left found run := by
  obtain ⟨⟨q1, q2, q3⟩, ⟨q4, q5⟩, q6⟩ := nd4 L.nd
  have t := L.mm.tup b
  have kl : ∀ {x : Addr} {ys : List V}, H x = some (.lst ys) → x ≠ lc → H' x = some (.lst ys) := fun h n => b _ _ h (nn (L.mm.nl h).1 n)
  have kp : ∀ {x : Addr} {xs : List Pr}, Lst PairAt H x xs → x ≠ lc → Lst PairAt H' x xs := fun ⟨vs, h, p⟩ n => ⟨vs, kl h n, Paired.tl PairAt.st t p⟩
  refine ⟨b.fresh L.same (fun x hx => L.fr x (by simp only [List.mem_cons, List.not_mem_nil, or_false] at hx ⊢; rcases hx with z | z <;> simp [z])), L.fr, L.nd, M, kp L.la q1.symm, ?_, kp L.le q3.symm⟩
  obtain ⟨vs, h, p⟩ := L.ld
  refine ⟨vs, kl h q2.symm, P2.mono (fun v xs q => ?_) p⟩
  obtain ⟨l, e1, e2, e3, e4⟩ := q
  exact ⟨l, e1, e2, e3, kp e4 fun z => e3 (by rw [z]; simp)⟩
/-- a list of its own has changed -/
theorem MakerS.put (M : MakerS K H p lo pr lc o size cs k last) (s0 : Same H0 H) {x : Addr} {ys vs : List V} (h : H x = some (.lst ys)) (n1 : x ≠ lc) (n2 : x ≠ lo) : MakerS K (upd H x (.lst vs)) p lo pr lc o size cs k last := by
  have t : TupLe H (upd H x (.lst vs)) := (TupLe.refl H).list h
  obtain ⟨vl, ob, hv⟩ := M.ob
  obtain ⟨xp, xr⟩ := M.nl h
  exact ⟨⟨vl, ob.keep fun u e => up e xp.symm, OptAt.st _ _ _ _ t hv⟩, ⟨M.room.ob.keep fun u e => up e xr.symm, M.room.ord.keep TurnAt.st t fun u e => up e n2.symm, M.room.cells.keep CellAt.st t fun u e => up e n1.symm, M.room.ne⟩, M.ne⟩
theorem EX.pa (L : EX K H0 H p lo pr lc a d e o size cs k last left found run) (n : a ≠ lo) (q : Paired (PairAt H) vs left') : EX K H0 (upd H a (.lst vs)) p lo pr lc a d e o size cs k last left' found run := by
  obtain ⟨⟨q1, q2, q3⟩, ⟨q4, q5⟩, q6⟩ := nd4 L.nd
  obtain ⟨ys, hx, _⟩ := L.la
  exact ⟨Rs.Same.mut L.same (L.fr _ (by simp)), L.fr, L.nd, L.mm.put L.same hx q1.symm n, Lst.on hx q, Runs.put L.ld hx (by simp) q4.symm, L.le.off hx q5.symm⟩
theorem EX.pe (L : EX K H0 H p lo pr lc a d e o size cs k last left found run) (n : e ≠ lo) (q : Paired (PairAt H) vs run') : EX K H0 (upd H e (.lst vs)) p lo pr lc a d e o size cs k last left found run' := by
  obtain ⟨⟨q1, q2, q3⟩, ⟨q4, q5⟩, q6⟩ := nd4 L.nd
  obtain ⟨ys, hx, _⟩ := L.le
  exact ⟨Rs.Same.mut L.same (L.fr _ (by simp)), L.fr, L.nd, L.mm.put L.same hx q3.symm n, L.la.off hx q5, Runs.put L.ld hx (by simp) q6, Lst.on hx q⟩
end
abbrev N_exchanged : List Str := ["kinds", "order", "size", "rows", "maker", "left", "found", "run", "pair"]
abbrev P_exchanged : List Str := ["kinds", "order", "size", "rows"]
def sp_exchanged (K : PySem.W.Frag) : Sp := fun vs H Q E => match vs with
  | [kv, ov, sz, rv] => ∃ ks o size rows, KindsAt H kv ks ∧ GoodKinds ks ∧ LstV TurnAt H ov o ∧ GoodOrd ks o ∧ o.length ≤ 1000 ∧ sz = .int size ∧ 1 ≤ size ∧ size ≤ 24 ∧ LstV RowAt H rv rows ∧ (∀ r ∈ rows, isRow ks r = true) ∧ rows.length ≤ 120 ∧
    ∀ f H', H f = none → Lst (RunAt H []) H' f (runsOf o size (prs rows)) → Same H H' → Q (.ref f) H'
  | _ => False
def t_exchanged (K : PySem.W.Frag) (E : XK) : TS := (tSeq (tDrop (tCall (sp_need_making K) [] E (tCons (tVar 0) (tCons (tVar 1) (tCons (tVar 2) (tCons (tVar 3) tNil))))))
  (tSeq (tAsg (tMake (He.ga K "Maker") (sp_Maker___init__ K) [] E (tCons (tCB1 (xList K) (tVar 1)) (tCons (tVar 2) tNil))) (gName 4))
   (tSeq (tAsg (tCall (sp_numbered K) [] E (tCons (tVar 3) tNil)) (gName 5))
    (tSeq (tAsg (tLst tNil) (gName 6))
     (tSeq (tWhile (tOr (tTest (tOp (xNeE K) (tVar 5) (tLst tNil))) (tTest (tOpC xGt (tMeth (He.ga K "Room") "many_in" (sp_Room_many_in K) [] E (tFl K (tVar 4) "room") tNil) (.int 0)))) 
        (tSeq (tAsg (tLst tNil) (gName 7))
        (tSeq (tAsg (tTup (tConsC (.int 0) (tConsC .non tNil))) (gName 8))
         (tSeq (tWhile (tTest (tOpC rNotN (tVar 8) .non)) 
            (tSeq (tWhile (tAnd (tTest (tOp (xNeE K) (tVar 5) (tLst tNil))) (tB (tMeth (He.ga K "Maker") "has_space" (sp_Maker_has_space K) [] E (tVar 4) tNil))) (tDrop (tMeth (He.ga K "Maker") "come" (sp_Maker_come K) [] E (tVar 4) (tCons (tBM K "list" rPopAt (tVar 5) (tConsC (.int 0) tNil)) tNil))))
            (tSeq (tAsg (tMeth (He.ga K "Maker") "goes" (sp_Maker_goes K) [] E (tVar 4) tNil) (gName 8))
             (tIfS (tTest (tOpC rNotN (tVar 8) .non)) (tDrop (tBM K "list" rAppend (tVar 7) (tCons (tVar 8) tNil))) tNext))))
          (tSeq (tDrop (tBM K "list" rAppend (tVar 6) (tCons (tVar 7) tNil)))
           (tDrop (tMeth (He.ga K "Maker") "turn" (sp_Maker_turn K) [] E (tVar 4) tNil)))))))
      (tRet (tVar 6)))))))
theorem pure_exchanged {K : PySem.W.Frag} (T : TxtMaker K) : ∀ vs H Q E, sp_exchanged K vs H Q E → t_exchanged K E { nx := fun _ H' => Q .non H', rt := Q } (start N_exchanged vs) H := by
  intro vs H Q E h
  match vs, h with
  | [kv, ov, sz, rv], h =>
    obtain ⟨ks, o, size, rows, hk, gk, ho, go, hol, rfl, hs1, hs2, hr, hgood, hlen, k⟩ := h
    refine ⟨_, rfl, _, rfl, _, rfl, _, rfl, ks, o, size, rows, hk, gk, ho, go, hol, rfl, hs1, hs2, hr, hgood, hlen, fun H1 s1 => ?_⟩
    have hcol := go.col
    obtain ⟨lq, rfl, oq, eq, pq⟩ := LstV.same TurnAt.st s1 ho
    -- the maker
    refine ⟨_, rfl, _, _, rfl, .inl (SqL.of eq), fun lo hlo => ⟨_, rfl, fun p dx hp hdx ndx => ?_⟩⟩
    have sA : Same H1 (upd H1 lo (.lst oq)) := Rs.Same.new hlo
    have Lo : Lst TurnAt (upd H1 lo (.lst oq)) lo o := ⟨oq, upd_same, Paired.tl TurnAt.st (TupLe.same sA) pq⟩
    have sB : Same (upd H1 lo (.lst oq)) (upd (upd (upd H1 lo (.lst oq)) dx (.own p)) p (.ins (He.ga K "Maker") dx [])) := (Rs.Same.new hdx).trans (Rs.Same.new (by rw [upd_ne ndx.symm]; exact hp))
    refine ⟨p, dx, lo, o, size, rfl, rfl, rfl, upd_same, Lo.same TurnAt.st sB, fun pr lc H2 M hpr hlc k2 => ⟨rfl, ?_⟩⟩
    have sC : Same (upd H1 lo (.lst oq)) H2 := k2.fresh sB (fun x hx => by rw [List.mem_singleton] at hx; rw [hx]; exact hp)
    have s2 : Same H H2 := (s1.trans sA).trans sC
    have fp : H p = none := (s1.trans sA).free hp
    have flc : H lc = none := ((s1.trans sA).trans sB).free hlc
    have nlo : H lo = none := s1.free hlo
    clear sB k2 Lo
    -- the pairs, the runs
    refine ⟨_, rfl, rows, LstV.same RowAt.st s2 hr, by omega, fun ll H3 hll L1 s3 => ?_⟩
    refine ⟨sz0, fun lf hlf => ?_⟩
    have M3 := (M.same s3).same (Rs.Same.new (o := .lst []) hlf)
    have s4 : Same H (upd H3 lf (.lst [])) := (s2.trans s3).trans (Rs.Same.new hlf)
    have L4 := L1.same PairAt.st (Rs.Same.new (o := .lst []) hlf)
    have fll : H ll = none := s2.free hll
    have flf : H lf = none := (s2.trans s3).free hlf
    have elo : H2 lo = some (.lst oq) := sC _ _ upd_same
    obtain ⟨cv, ec, _⟩ := M.room.cells
    have n1 : ll ≠ lo := (ne_of_none elo hll).symm
    have n2 : lf ≠ lo := (ne_of_none (s3 _ _ elo) hlf).symm
    have n3 : lc ≠ ll := ne_of_none ec hll
    have n4 : lc ≠ lf := ne_of_none (s3 _ _ ec) hlf
    have n5 : ll ≠ lf := by obtain ⟨_, e, _⟩ := L1; exact ne_of_none e hlf
    have pf := prs_fine hgood
    have pl := prs_len (rows := rows)
    generalize hR : runsOf o size (prs rows) = R at k
    refine ⟨fun n σ H' => ∃ (left late : List Pr) (found : List (List Pr)) (cs : List Cell) (kk : Int) (x7 x8 : Option V), σ = [some kv, some (.ref lq), some (.int size), some rv, some (.ref p), some (.ref ll), some (.ref lf), x7, x8] ∧ Same H H' ∧ MakerS K H' p lo pr lc o size cs kk none ∧ Lst PairAt H' ll left ∧ Lst (RunAt H [lc, ll, lf]) H' lf found ∧ cs.Perm (cells kk late []) ∧ IsHeap (cless o) c0 cs ∧
        Fine ks (left ++ late) ∧ left.length + late.length < n ∧ left.length + late.length ≤ 120 ∧ found.length + n ≤ 200 ∧ outer o size n left late found = R,
      ⟨(prs rows).length + 1, prs rows, [], [], [], 0, none, none, rfl, s4, M3, L4, ⟨[], upd_same, .nil⟩, .nil, fun i h0 h1 => absurd h1 (Nat.not_lt_zero _), by rw [List.append_nil]; exact pf, by simp, by rw [List.length_nil]; omega, by rw [List.length_nil]; omega, hR⟩, ?_⟩
    clear M3 s4 L4 L1 hll hlf s3 M
    rintro n σ H4 ⟨left, late, found, cs, kk, x7, x8, rfl, s, M, L1, Lf, hcs, hheap, fine, hn, hle, hfn, hout⟩
    obtain ⟨m, rfl⟩ : ∃ m, n = m + 1 := ⟨n - 1, by omega⟩
    have hcl := hcs.length_eq
    rw [cells_len, List.length_nil] at hcl
    -- the test
    have test : ∀ Q : Bool → Hp → Prop, (∀ H', Same H4 H' → Q (decide (¬ (left = [] ∧ late = []))) H') → (tOr (tTest (tOp (xNeE K) (tVar 5) (tLst tNil))) (tTest (tOpC xGt (tMeth (He.ga K "Room") "many_in" (sp_Room_many_in K) [] E (tFl K (tVar 4) "room") tNil) (.int 0))) : TT)
        [some kv, some (.ref lq), some (.int size), some rv, some (.ref p), some (.ref ll), some (.ref lf), x7, x8] H4 Q := fun Q q => by
      obtain ⟨va, ea, pa⟩ := L1
      have la := pa.length
      refine or_test (l := ll) rfl ea (fun ne H' s' => ?_) fun e1 H5 s5 => ?_
      · have e : decide (¬ (left = [] ∧ late = [])) = true := decide_eq_true fun z => ne (by rw [z.1] at la; exact List.length_eq_zero_iff.mp la)
        rw [← e]
        exact q _ s'
      · have hq := q _ s5
        rw [e1] at la
        have l0 : left = [] := List.length_eq_zero_iff.mp la.symm
        have M5 := M.same s5
        obtain ⟨vl, ob, _⟩ := M5.ob
        obtain ⟨dr, hob⟩ := M5.room.ob
        refine ⟨_, rfl, g_Maker_room T ob ⟨pr, dr, _, rfl, hob, no_Room_many_in, pr, lo, lc, o, cs, rfl, M5.room, _, _, rfl, rfl, _, rfl, ?_⟩⟩
        have e2 : decide (¬ (left = [] ∧ late = [])) = decide ((0 : Int) < (cs.length : Int)) := by
          refine decide_eq_decide.mpr ⟨fun z => ?_, fun z y => ?_⟩
          · have : late ≠ [] := fun y => z ⟨l0, y⟩
            have := List.length_pos_iff.mpr this
            omega
          · rw [y.2, List.length_nil] at hcl
            omega
        rw [← e2]
        exact hq
    refine test _ fun H5 s5 => ?_
    dsimp only
    unfold outer at hout
    by_cases hne : left = [] ∧ late = []
    · have eD : decide (¬ (left = [] ∧ late = [])) = false := by rw [decide_eq_false_iff_not]; exact fun z => z hne
      rw [eD]
      rw [if_pos hne] at hout
      subst hout
      exact ⟨_, rfl, k lf _ flf (Runs.sub (Runs.same Lf s5) (by simp)) (s.trans s5)⟩
    have eD : decide (¬ (left = [] ∧ late = [])) = true := decide_eq_true hne
    rw [eD]
    rw [if_neg hne] at hout
    have fine0 : Fine ks (left ++ (late ++ [])) := by rw [List.append_nil]; exact fine
    have kp := inner_keeps (ks := ks) (o := o) (size := size) (left.length + late.length + 1) left late [] [] fine0 (by simp) (by simp)
    have some_ := fill_some o hs1 hne
    generalize hR2 : inner o size (left.length + late.length + 1) left late [] [] = R2 at hout kp
    refine ⟨_, fun σ' H' h => h, ?_⟩
    refine ⟨sz0, fun lr hlr => ?_⟩
    have sD : Same H4 (upd H5 lr (.lst [])) := s5.trans (Rs.Same.new hlr)
    refine ⟨szle (by show 2 ≤ 100000; decide), fun t ht => ?_⟩
    have sE : Same H4 (upd (upd H5 lr (.lst [])) t (.tup [.int 0, .non])) := sD.trans (Rs.Same.new ht)
    have flr : H lr = none := (s.trans s5).free hlr
    have Lf2 : Lst (RunAt H [lr, lc, ll, lf]) (upd (upd H5 lr (.lst [])) t (.tup [.int 0, .non])) lf found := Runs.same (Runs.new (Runs.same Lf s5) hlr) ((Rs.Same.new hlr).trans (Rs.Same.new ht))
    have nd : [lc, ll, lf, lr].Nodup := by
      obtain ⟨va, ea, _⟩ := L1
      obtain ⟨vf, ef, _⟩ := Lf
      obtain ⟨vc, ec, _⟩ := M.room.cells
      have a1 : ll ≠ lr := ne_of_none (s5 _ _ ea) hlr
      have a2 : lf ≠ lr := ne_of_none (s5 _ _ ef) hlr
      have a3 : lc ≠ lr := ne_of_none (s5 _ _ ec) hlr
      simp only [List.nodup_cons, List.mem_cons, List.not_mem_nil, or_false, not_or, not_false_eq_true, and_true, List.nodup_nil]
      exact ⟨⟨n3, n4, a3⟩, ⟨n5, a1⟩, a2⟩
    have nro : lr ≠ lo := by
      obtain ⟨ov, e, _⟩ := M.room.ord
      exact (ne_of_none (s5 _ _ e) hlr).symm
    have EX0 : EX K H (upd (upd H5 lr (.lst [])) t (.tup [.int 0, .non])) p lo pr lc ll lf lr o size cs kk none left found [] := by
      refine ⟨s.trans sE, fun x hx => ?_, nd, M.same sE, L1.same PairAt.st sE, Runs.sub Lf2 ?_, ⟨[], un upd_same ht, .nil⟩⟩
      · simp only [List.mem_cons, List.not_mem_nil, or_false] at hx
        rcases hx with rfl | rfl | rfl | rfl | rfl
        · exact fp
        · exact flc
        · exact fll
        · exact flf
        · exact flr
      · intro y hy
        simp only [List.mem_cons, List.not_mem_nil, or_false] at hy ⊢
        rcases hy with z | z | z | z <;> simp [z]
    refine ⟨fun k' σ H' => ∃ (left here late : List Pr) (run : List Pr) (cs : List Cell) (w : V), σ = [some kv, some (.ref lq), some (.int size), some rv, some (.ref p), some (.ref ll), some (.ref lf), some (.ref lr), some w] ∧ EX K H H' p lo pr lc ll lf lr o size cs kk run.getLast? left found run ∧ cs.Perm (cells kk here late) ∧ IsHeap (cless o) c0 cs ∧ Fine ks (left ++ (here ++ late)) ∧ (∀ q ∈ run, isRow ks q.2 = true) ∧
        left.length + here.length + late.length + run.length ≤ 120 ∧ (w = .non → here = [] ∧ (left, late, run) = R2) ∧ (w ≠ .non → left.length + here.length + late.length < k' ∧ inner o size k' left here late run = R2),
      ⟨left.length + late.length + 1, left, late, [], [], cs, _, rfl, EX0, hcs, hheap, fine0, by simp, by rw [List.length_nil]; omega, fun z => (by cases z), fun _ => ⟨by rw [List.length_nil]; omega, hR2⟩⟩, ?_⟩
    clear EX0 Lf2 sD sE L1 Lf fine0 test M hcs hheap hcl
    rintro k' σ H6 ⟨left', here', late', run', cs', w, rfl, L, hcs, hheap, fine', hrow, htot, hov, hno⟩
    refine ⟨_, rfl, rfl, _, rfl, ?_⟩
    have hcl := hcs.length_eq
    rw [cells_len] at hcl
    by_cases hw : w = .non
    · subst hw
      have ew : (!decide (V.non = V.non)) = false := rfl
      rw [ew]
      obtain ⟨rfl, e2⟩ := hov rfl
      subst e2
      obtain ⟨_, k2, _, _, k5⟩ := kp
      have k6 := k5 some_
      dsimp only at k2 k6 hout
      obtain ⟨vf, ef, pf'⟩ := L.ld
      have lf' := pf'.length
      obtain ⟨⟨q1, q2, q3⟩, ⟨q4, q5⟩, q6⟩ := nd4 L.nd
      refine ⟨_, rfl, .inl ⟨rfl, _, SqL.of ef⟩, _, rfl, lf, _, _, rfl, rfl, ef, szlt (by omega), ?_⟩
      have M7 := L.mm.put (vs := vf ++ [.ref lr]) L.same ef q2.symm n2
      have Lf7 : Lst (RunAt H [lc, ll, lf]) (upd H6 lf (.lst (vf ++ [.ref lr]))) lf (found ++ [run']) := Runs.add ef (P2.mono (fun _ _ q => q.sub (by intro y hy; simp only [List.mem_cons, List.not_mem_nil, or_false] at hy ⊢; rcases hy with z | z | z <;> simp [z])) pf') (by simp) q6.symm flr (by simp only [List.mem_cons, List.not_mem_nil, or_false, not_or]; exact ⟨q3.symm, q5.symm, q6.symm⟩) L.le
      have L7 := L.la.off (u := .lst (vf ++ [.ref lr])) ef q4
      have s7 : Same H (upd H6 lf (.lst (vf ++ [.ref lr]))) := Rs.Same.mut L.same flf
      obtain ⟨vl7, ⟨dx7, ob7⟩, _⟩ := M7.ob
      refine ⟨_, rfl, p, dx7, _, rfl, ob7, no_Maker_turn, p, lo, pr, lc, o, size, cs', kk, _, rfl, M7, fun H8 M8 k8 => ?_⟩
      have t8 : TupLe (upd H6 lf (.lst (vf ++ [.ref lr]))) H8 := M7.tup (k8.wide fun x hx => by rw [List.mem_singleton] at hx; rw [hx]; simp)
      have kl : ∀ {x : Addr} {ys : List V}, upd H6 lf (.lst (vf ++ [.ref lr])) x = some (.lst ys) → H8 x = some (.lst ys) := fun h => k8 _ _ h (ne1 (M7.nl h).1)
      have s8 : Same H H8 := k8.fresh s7 (fun x hx => by rw [List.mem_singleton] at hx; rw [hx]; exact fp)
      obtain ⟨a8, b8, c8⟩ := L7
      obtain ⟨d8, e8, f8⟩ := Lf7
      refine ⟨m, by omega, left', late', found ++ [run'], cs', kk + 1, _, _, rfl, s8, M8, ⟨a8, kl b8, Paired.tl PairAt.st t8 c8⟩, ⟨d8, kl e8, P2.mono (fun v xs q => ?_) f8⟩, by rw [← cells_turn]; exact hcs, hheap, fine', ?_, ?_, ?_, hout⟩
      · obtain ⟨l, g1, g2, g3, g4⟩ := q
        obtain ⟨ys, g5, g6⟩ := g4
        exact ⟨l, g1, g2, g3, ys, kl g5, Paired.tl PairAt.st t8 g6⟩
      · simp only [List.length_nil] at k2 k6; omega
      · simp only [List.length_nil] at k2 k6; omega
      · rw [List.length_append, List.length_singleton]; omega
    have ew : (!decide (w = V.non)) = true := by rw [decide_eq_false hw]; rfl
    rw [ew]
    obtain ⟨hk, hin⟩ := hno hw
    obtain ⟨k1, rfl⟩ : ∃ k1, k' = k1 + 1 := ⟨k' - 1, by omega⟩
    unfold inner at hin
    have pm := fill_perm o size run'.getLast? left' here' late'
    generalize hRF : fillL o size run'.getLast? left' here' late' = RF at hin pm
    refine ⟨_, fun σ' H' h => h, ?_⟩
    refine ⟨fun j σ H' => ∃ (left here late : List Pr) (cs : List Cell), j = left.length ∧ σ = [some kv, some (.ref lq), some (.int size), some rv, some (.ref p), some (.ref ll), some (.ref lf), some (.ref lr), some w] ∧ EX K H H' p lo pr lc ll lf lr o size cs kk run'.getLast? left found run' ∧ cs.Perm (cells kk here late) ∧ IsHeap (cless o) c0 cs ∧ Fine ks (left ++ (here ++ late)) ∧
        left.length + here.length + late.length = left'.length + here'.length + late'.length ∧ fillL o size run'.getLast? left here late = RF,
      ⟨_, left', here', late', cs', rfl, rfl, L, hcs, hheap, fine', rfl, hRF⟩, ?_⟩
    clear L fine' hov hno hcs hheap hcl cs'
    rintro j σ H7 ⟨left2, here2, late2, cs2, rfl, rfl, L, hcs, hheap, fine2, hsum, hfill⟩
    have hcl := hcs.length_eq
    rw [cells_len] at hcl
    have hcr := cells_row hcs fine2.right.row
    obtain ⟨va, ea, pa⟩ := L.la
    have la := pa.length
    -- no more come in
    have over : ∀ H8, Same H7 H8 → (left2, here2, late2) = RF → ∀ D : Ends, (∀ σ' H', (∃ k'', k'' < k1 + 1 ∧ ∃ (left here late : List Pr) (run : List Pr) (cs : List Cell) (w : V), σ' = [some kv, some (.ref lq), some (.int size), some rv, some (.ref p), some (.ref ll), some (.ref lf), some (.ref lr), some w] ∧ EX K H H' p lo pr lc ll lf lr o size cs kk run.getLast? left found run ∧ cs.Perm (cells kk here late) ∧ IsHeap (cless o) c0 cs ∧ Fine ks (left ++ (here ++ late)) ∧ (∀ q ∈ run, isRow ks q.2 = true) ∧
        left.length + here.length + late.length + run.length ≤ 120 ∧ (w = .non → here = [] ∧ (left, late, run) = R2) ∧ (w ≠ .non → left.length + here.length + late.length < k'' ∧ inner o size k'' left here late run = R2)) → D.nx σ' H') →
        ((tSeq (tAsg (tMeth (He.ga K "Maker") "goes" (sp_Maker_goes K) [] E (tVar 4) tNil) (gName 8)) (tIfS (tTest (tOpC rNotN (tVar 8) .non)) (tDrop (tBM K "list" rAppend (tVar 7) (tCons (tVar 8) tNil))) tNext)) : TS) D
        [some kv, some (.ref lq), some (.int size), some rv, some (.ref p), some (.ref ll), some (.ref lf), some (.ref lr), some w] H8 := by
      intro H8 s8 eRF D hD
      subst eRF
      dsimp only at hin
      have L8 := L.on s8
      obtain ⟨vl8, ⟨dx8, ob8⟩, _⟩ := L8.mm.ob
      refine ⟨_, rfl, p, dx8, _, rfl, ob8, no_Maker_goes, p, lo, pr, lc, o, size, cs2, kk, _, ks, rfl, L8.mm, hcol, hcr, hheap, by omega, fun hnone H9 s9 => ?_, fun hpos hrun cs3 v H9 M9 hheap9 hp9 hv9 k9 => ?_⟩
      · refine ⟨_, rfl, rfl, _, rfl, ?_⟩
        have hh : here2 = [] := by
          by_cases hh : here2 = []
          · exact hh
          · obtain ⟨g1, g2⟩ := cells_min hcol fine2.right hcs hheap hh
            rcases hnone with z | z
            · rw [z] at g1; simp at g1
            · rw [g2] at z; exact absurd rfl z
        rw [if_pos hh] at hin
        exact hD _ _ ⟨0, by omega, left2, here2, late2, run', cs2, .non, rfl, L8.on s9, hcs, hheap, fine2, hrow, by omega, fun _ => ⟨hh, hin⟩, fun z => absurd rfl z⟩
      · have hh : here2 ≠ [] := by
          intro hh
          subst hh
          rcases cells_none hcs with z | z
          · rw [z] at hpos; simp at hpos
          · exact z hrun
        rw [if_neg hh] at hin
        obtain ⟨_, g2⟩ := cells_min hcol fine2.right hcs hheap hh
        rw [g2] at M9 hp9 hv9
        dsimp only at M9 hv9
        have hvn : v ≠ .non := by
          obtain ⟨w9, ⟨a9, rfl, _⟩, _⟩ := hv9
          intro z; cases z
        refine ⟨_, rfl, rfl, _, rfl, ?_⟩
        have ev : (!decide (v = V.non)) = true := by rw [decide_eq_false hvn]; rfl
        rw [ev]
        have L9 := L8.made k9 M9
        obtain ⟨ve, ee, pe⟩ := L9.le
        have le := pe.length
        refine ⟨_, rfl, .inl ⟨rfl, _, SqL.of ee⟩, _, rfl, lr, _, _, rfl, rfl, ee, szlt (by omega), hD _ _ ?_⟩
        have L10 := L9.pe nro (P2.app pe (P2.one hv9))
        have hm := mn_mem o hh
        have ol := (out_perm fine2.right.left.nd hm).length_eq
        rw [List.length_cons] at ol
        refine ⟨k1, by omega, left2, outN (mn o here2).1 here2, late2, run' ++ [mn o here2], cs3, v, rfl, ?_, cells_take fine2.right hcs hh hp9, hheap9, ?_, ?_, ?_, fun z => absurd z hvn, fun _ => ⟨by omega, hin⟩⟩
        · rw [List.getLast?_append]
          exact L10
        · exact fine2.sub (List.Sublist.append (.refl _) (List.Sublist.append List.filter_sublist (.refl _)))
        · intro q hq
          rcases List.mem_append.mp hq with z | z
          · exact hrow q z
          · rw [List.mem_singleton.mp z]; exact fine2.right.left.row _ hm
        · rw [List.length_append, List.length_singleton]; omega
    refine ne_test (l := ll) rfl ea fun H8 s8 => ?_
    cases left2 with
    | nil =>
      cases va with
      | cons _ _ => simp at la
      | nil => exact over H8 s8 hfill _ fun _ _ h => h
    | cons q left3 =>
      cases va with
      | nil => simp at la
      | cons v va =>
      have L8 := L.on s8
      obtain ⟨vl8, ⟨dx8, ob8⟩, _⟩ := L8.mm.ob
      refine ⟨_, rfl, p, dx8, _, rfl, ob8, no_Maker_has_space, p, lo, pr, lc, o, size, cs2, kk, _, rfl, L8.mm, _, rfl, ?_⟩
      unfold fillL at hfill
      by_cases hsp : (here2.length : Int) + (late2.length : Int) < size
      · rw [if_pos hsp] at hfill
        rw [decide_eq_true (by omega)]
        cases pa with
        | cons hv pa =>
        have ea8 := s8 _ _ ea
        have t8 := TupLe.same s8
        have L9 := L8.pa (vs := va) n1 (Paired.tl PairAt.st t8 pa)
        have t9 : TupLe H8 (upd H8 ll (.lst va)) := (TupLe.refl _).list ea8
        refine ⟨_, fun σ' H' h => h, ?_⟩
        refine ⟨_, rfl, p, dx8, _, rfl, ob8, no_Maker_come, _, rfl, .inl ⟨rfl, _, SqL.of ea8⟩, ll, _, 0, 0, v, rfl, rfl, ea8, by decide, by decide, seqIx (j := 0) (by simp), rfl, ?_⟩
        have rq : isRow ks q.2 = true := fine2.row q (by simp)
        refine ⟨p, lo, pr, lc, o, size, cs2, kk, _, ks, q, rfl, L9.mm, PairAt.st _ _ _ _ (t8.trans t9) hv, hcol, rq, hcr, fun l hl => hrow l (List.mem_of_getLast? hl), hheap, by omega, fun cs3 H10 M10 hheap10 p10 k10 => ?_⟩
        have L10 := L9.made (k10.wide fun x hx => by rw [List.mem_singleton] at hx; rw [hx]; simp) M10
        have hc := cells_come hcs p10
        have sum2 : left3.length + 1 + here2.length + late2.length = left'.length + here'.length + late'.length := by
          rw [List.length_cons] at hsum
          omega
        cases el : Rs.late o q run'.getLast? with
        | true =>
          rw [el] at hfill hc
          refine ⟨left3.length, by simp, left3, here2, late2 ++ [q], cs3, rfl, rfl, L10, hc, hheap10, fine2.perm ?_, by rw [List.length_append, List.length_singleton]; omega, hfill⟩
          have e : left3 ++ (here2 ++ (late2 ++ [q])) = (left3 ++ (here2 ++ late2)) ++ [q] := by simp
          rw [e]
          exact List.perm_append_comm (l₂ := [q])
        | false =>
          rw [el] at hfill hc
          refine ⟨left3.length, by simp, left3, here2 ++ [q], late2, cs3, rfl, rfl, L10, hc, hheap10, fine2.perm ?_, by rw [List.length_append, List.length_singleton]; omega, hfill⟩
          rw [List.append_assoc]
          have z : (left3 ++ (here2 ++ ([q] ++ late2))).Perm (left3 ++ ([q] ++ (here2 ++ late2))) := by
            refine List.Perm.append_left _ ?_
            rw [← List.append_assoc, ← List.append_assoc]
            exact List.Perm.append_right _ List.perm_append_comm
          exact z.trans List.perm_middle
      · rw [if_neg hsp] at hfill
        rw [decide_eq_false (by omega)]
        exact over H8 s8 hfill _ fun _ _ h => h
end Rs

namespace Rs
open PySem PySem.Spec PyProof.Rows L2
abbrev N_law_alike : List Str := ["_law_found", "_law_due", "_law_k"]
abbrev P_law_alike : List Str := ["_law_found", "_law_due"]
/-- data that is plain, not deep, not long; of any texts -/
def okA : Nat → PyData → Prop
  | 0, _ => False
  | _ + 1, .none => True
  | _ + 1, .bool _ => True
  | _ + 1, .int _ => True
  | _ + 1, .str _ => True
  | n + 1, .list ds => ds.length ≤ 100000 ∧ ∀ d ∈ ds, okA n d
  | n + 1, .tuple ds => ds.length ≤ 100000 ∧ ∀ d ∈ ds, okA n d
  | _ + 1, _ => False
theorem okD.a : ∀ {n : Nat} {d : PyData}, okD n d → okA n d
  | 0, _, h => h.elim
  | n + 1, .none, _ => trivial
  | n + 1, .bool _, _ => trivial
  | n + 1, .int _, _ => trivial
  | n + 1, .str _, _ => trivial
  | n + 1, .list ds, h => ⟨h.1, fun d hd => okD.a (h.2 d hd)⟩
  | n + 1, .tuple ds, h => ⟨h.1, fun d hd => okD.a (h.2 d hd)⟩
theorem okA.up : ∀ {n : Nat} {d : PyData}, okA n d → okA (n + 1) d
  | 0, _, h => h.elim
  | n + 1, .none, _ => trivial
  | n + 1, .bool _, _ => trivial
  | n + 1, .int _, _ => trivial
  | n + 1, .str _, _ => trivial
  | n + 1, .list ds, h => ⟨h.1, fun d hd => okA.up (h.2 d hd)⟩
  | n + 1, .tuple ds, h => ⟨h.1, fun d hd => okA.up (h.2 d hd)⟩
theorem okA.ups {n : Nat} {d : PyData} (h : okA n d) : ∀ k, okA (n + k) d
  | 0 => h
  | k + 1 => okA.up (okA.ups h k)
theorem okA.to {n m : Nat} {d : PyData} (h : okA n d) (l : n ≤ m) : okA m d := by
  have := h.ups (m - n)
  rwa [show n + (m - n) = m by omega] at this
def spr_law_alike (K : PySem.W.Frag) (n : Nat) : Sp := fun vs H Q E => match vs with
  | [x, y] => ∃ d, okA n d ∧ Dp K H x d ∧ Dp K H y d ∧ Q (.bl true) H
  | _ => False
abbrev sp_law_alike (K : PySem.W.Frag) : Sp := spr_law_alike K 45
theorem len_law_alike (K : PySem.W.Frag) : ∀ d vs H Q E, spr_law_alike K d vs H Q E → vs.length = 2 := fun d vs H Q E h => by
  unfold spr_law_alike at h
  match vs, h with
  | [_, _], _ => rfl
theorem no_law_alike (K : PySem.W.Frag) : ∀ vs H Q E, ¬ spr_law_alike K 0 vs H Q E := fun vs H Q E h => by
  unfold spr_law_alike at h
  match vs, h with
  | [_, _], ⟨d, h, _⟩ => exact h
def t_law_alike (K : PySem.W.Frag) (sp : Sp) (E : XK) : TS := (tSeq (tIfS (tTest (tOpC rIsN (tVar 1) .non)) (tRet (tOpC rIsN (tVar 0) .non)) tNext)
  (tSeq (tIfS (tB (tIsi K "bool" (tVar 1))) (tRet (tAndV (tIsi K "bool" (tVar 0)) (tOp rEq (tVar 0) (tVar 1)))) tNext)
   (tSeq (tIfS (tB (tIsi K "int" (tVar 1))) (tRet (tAndV (tIsi K "int" (tVar 0)) (tAndV (tNotV (tIsi K "bool" (tVar 0))) (tOp rEq (tVar 0) (tVar 1))))) tNext)
    (tSeq (tIfS (tB (tIsi K "str" (tVar 1))) (tRet (tAndV (tIsi K "str" (tVar 0)) (tOp rEq (tVar 0) (tVar 1)))) tNext)
     (tSeq (tIfS (tOr (tTest (tOp rNe (tIsi K "tuple" (tVar 1)) (tIsi K "tuple" (tVar 0)))) (tTest (tOp rNe (tIsi K "list" (tVar 1)) (tIsi K "list" (tVar 0))))) (tRet (tC (.bl false))) tNext)
      (tSeq (tIfS (tTest (tOp rNe (tCB1 (xLen K) (tVar 0)) (tCB1 (xLen K) (tVar 1)))) (tRet (tC (.bl false))) tNext)
       (tSeq (tFor (iRng1 (tCons (tCB1 (xLen K) (tVar 1)) tNil)) (gName 2) 
          (tIfS (tNot (tB (tCall sp [] E (tCons (tOp (rIx K) (tVar 0) (tVar 2)) (tCons (tOp (rIx K) (tVar 1) (tVar 2)) tNil))))) (tRet (tC (.bl false))) tNext))
        (tRet (tC (.bl true))))))))))
theorem tyL {K : PySem.W.Frag} {H : Hp} {a : Addr} {xs : List V} (h : SqL K H a xs) : TyX K H (.ref a) (.type "list") := by
  rcases h with (h | ⟨o, h⟩) | ⟨o, its, n, h, c, _⟩
  · exact .base (.lst h)
  · exact .base (.frz h)
  · exact .kList h c
theorem tyT {K : PySem.W.Frag} {H : Hp} {a : Addr} {xs : List V} (h : SqT K H a xs) : TyX K H (.ref a) (.type "tuple") := by
  rcases h with (h | ⟨o, h⟩) | ⟨o, its, n, h, c, _⟩
  · exact .base (.tup h)
  · exact .fTuple h
  · exact .kTuple h c
theorem dpAll_len {K : PySem.W.Frag} {H : Hp} : ∀ {vs : List V} {ds : List PyData}, DpAll K H vs ds → vs.length = ds.length
  | _, _, .nil => rfl
  | _, _, .cons _ t => by rw [List.length_cons, List.length_cons, dpAll_len t]
theorem dpAll_get {K : PySem.W.Frag} {H : Hp} : ∀ {vs : List V} {ds : List PyData}, DpAll K H vs ds → ∀ {i : Nat} {d : PyData}, ds[i]? = some d → ∃ v, vs[i]? = some v ∧ Dp K H v d
  | _, _, .nil, _, _, e => by simp at e
  | _, _, .cons h t, 0, d, e => by simp at e; subst e; exact ⟨_, rfl, h⟩
  | _, _, .cons h t, i + 1, d, e => by simpa using dpAll_get t (i := i) (by simpa using e)
theorem pure_law_alike {K : PySem.W.Frag} (d : Nat) : ∀ vs H Q E, spr_law_alike K (d + 1) vs H Q E → t_law_alike K (spr_law_alike K d) E { nx := fun _ H' => Q .non H', rt := Q } (start N_law_alike vs) H := by
  intro vs H Q E h
  unfold spr_law_alike at h
  match vs, h with
  | [x, y], ⟨z, ok, hx, hy, k⟩ =>
    -- two rows of items
    have tail : ∀ (a b : Addr) (xs ys : List V) (ds : List PyData), (SqL K H a xs ∨ SqT K H a xs) → (SqL K H b ys ∨ SqT K H b ys) → DpAll K H xs ds → DpAll K H ys ds → ds.length ≤ 100000 → (∀ e ∈ ds, okA d e) →
        ((tSeq (tIfS (tTest (tOp rNe (tCB1 (xLen K) (tVar 0)) (tCB1 (xLen K) (tVar 1)))) (tRet (tC (.bl false))) tNext)
          (tSeq (tFor (iRng1 (tCons (tCB1 (xLen K) (tVar 1)) tNil)) (gName 2) (tIfS (tNot (tB (tCall (spr_law_alike K d) [] E (tCons (tOp (rIx K) (tVar 0) (tVar 2)) (tCons (tOp (rIx K) (tVar 1) (tVar 2)) tNil))))) (tRet (tC (.bl false))) tNext))
            (tRet (tC (.bl true))))) : TS) { nx := fun _ H' => Q .non H', rt := Q } [some (.ref a), some (.ref b), none] H := by
      intro a b xs ys ds ha hb dx dy hl hok
      have lx := dpAll_len dx
      have ly := dpAll_len dy
      refine ⟨_, rfl, a, xs, rfl, ha, _, rfl, b, ys, rfl, hb, rfl, _, rfl, ?_⟩
      have e : (!decide (V.int (xs.length : Int) = V.int (ys.length : Int))) = false := by rw [lx, ly]; simp
      rw [e]
      refine ⟨_, rfl, b, ys, rfl, hb, _, rfl, by omega, by omega, ?_⟩
      refine for_range (lo := 0) (n := (ys.length : Int).toNat) (fun i σ H' => H' = H ∧ ∃ x2, σ = [some (.ref a), some (.ref b), x2]) ⟨rfl, none, rfl⟩ ?_ ?_
      · rintro i σ H' hi ⟨rfl, x2, rfl⟩
        have hid : i < ds.length := by omega
        have hd := List.getElem?_eq_getElem hid
        obtain ⟨vx, gx, px⟩ := dpAll_get dx hd
        obtain ⟨vy, gy, py⟩ := dpAll_get dy hd
        have ix : ∀ {a : Addr} {xs : List V} {v : V} {Q : VK}, (SqL K H' a xs ∨ SqT K H' a xs) → xs[i]? = some v → Q v H' → rIx K (.ref a) (.int (0 + (i : Int))) H' Q := fun h g q => by
          rcases h with h | h
          · exact .inl ⟨_, _, _, _, rfl, rfl, h, at_of (j := i) (by omega) g, q⟩
          · exact .inr (.inl ⟨_, _, _, _, rfl, rfl, h, at_of (j := i) (by omega) g, q⟩)
        refine ⟨_, rfl, _, rfl, ix ha gx ⟨_, rfl, _, rfl, ix hb gy ?_⟩⟩
        exact ⟨ds[i], hok _ (List.getElem_mem hid), px, py, _, rfl, rfl, _, rfl⟩
      · rintro σ H' ⟨rfl, x2, rfl⟩
        exact k
    cases hx with
    | non =>
      cases hy
      exact ⟨_, rfl, rfl, _, rfl, _, rfl, rfl, k⟩
    | bl b =>
      cases hy
      refine ⟨_, rfl, rfl, _, rfl, _, rfl, isi_go (t := "bool") (b := true) (.base (.bl b)) (by decide +kernel) ⟨_, rfl, _, rfl, isi_go (t := "bool") (b := true) (.base (.bl b)) (by decide +kernel) ⟨_, rfl, _, rfl, _, rfl, rfl, ?_⟩⟩⟩
      rw [decide_eq_true rfl]
      exact k
    | int b =>
      cases hy
      refine ⟨_, rfl, rfl, _, rfl, _, rfl, isi_go (t := "int") (b := false) (.base (.int b)) (by decide +kernel) ⟨_, rfl, _, rfl, isi_go (t := "int") (b := true) (.base (.int b)) (by decide +kernel) ⟨_, rfl, _, rfl, isi_go (t := "int") (b := true) (.base (.int b)) (by decide +kernel) ⟨_, rfl, _, rfl, isi_go (t := "int") (b := false) (.base (.int b)) (by decide +kernel) ⟨_, rfl, _, rfl, _, rfl, _, rfl, rfl, ?_⟩⟩⟩⟩⟩
      rw [decide_eq_true rfl]
      exact k
    | str b =>
      cases hy
      refine ⟨_, rfl, rfl, _, rfl, _, rfl, isi_go (t := "str") (b := false) (.base (.str b)) (by decide +kernel) ⟨_, rfl, _, rfl, isi_go (t := "str") (b := false) (.base (.str b)) (by decide +kernel) ⟨_, rfl, _, rfl, isi_go (t := "str") (b := true) (.base (.str b)) (by decide +kernel) ⟨_, rfl, _, rfl, isi_go (t := "str") (b := true) (.base (.str b)) (by decide +kernel) ⟨_, rfl, _, rfl, _, rfl, rfl, ?_⟩⟩⟩⟩⟩
      rw [decide_eq_true rfl]
      exact k
    | @lst a xs ds sx dx =>
      cases hy with
      | @lst b ys _ sy dy =>
        obtain ⟨hl, hok⟩ : ds.length ≤ 100000 ∧ ∀ e ∈ ds, okA d e := ok
        refine ⟨_, rfl, rfl, _, rfl, _, rfl, isi_go (t := "list") (b := false) (tyL sy) (by decide +kernel) ⟨_, rfl, _, rfl, isi_go (t := "list") (b := false) (tyL sy) (by decide +kernel) ⟨_, rfl, _, rfl, isi_go (t := "list") (b := false) (tyL sy) (by decide +kernel) ⟨_, rfl, ?_⟩⟩⟩⟩
        refine ⟨_, rfl, isi_go (t := "list") (b := false) (tyL sy) (by decide +kernel) ⟨_, rfl, isi_go (t := "list") (b := false) (tyL sx) (by decide +kernel) ⟨rfl, _, rfl, _, rfl, isi_go (t := "list") (b := true) (tyL sy) (by decide +kernel) ⟨_, rfl, isi_go (t := "list") (b := true) (tyL sx) (by decide +kernel) ⟨rfl, _, rfl, ?_⟩⟩⟩⟩⟩
        exact tail a b xs ys ds (.inl sx) (.inl sy) dx dy hl hok
    | @tup a xs ds sx dx =>
      cases hy with
      | @tup b ys _ sy dy =>
        obtain ⟨hl, hok⟩ : ds.length ≤ 100000 ∧ ∀ e ∈ ds, okA d e := ok
        refine ⟨_, rfl, rfl, _, rfl, _, rfl, isi_go (t := "tuple") (b := false) (tyT sy) (by decide +kernel) ⟨_, rfl, _, rfl, isi_go (t := "tuple") (b := false) (tyT sy) (by decide +kernel) ⟨_, rfl, _, rfl, isi_go (t := "tuple") (b := false) (tyT sy) (by decide +kernel) ⟨_, rfl, ?_⟩⟩⟩⟩
        refine ⟨_, rfl, isi_go (t := "tuple") (b := true) (tyT sy) (by decide +kernel) ⟨_, rfl, isi_go (t := "tuple") (b := true) (tyT sx) (by decide +kernel) ⟨rfl, _, rfl, _, rfl, isi_go (t := "tuple") (b := false) (tyT sy) (by decide +kernel) ⟨_, rfl, isi_go (t := "tuple") (b := false) (tyT sx) (by decide +kernel) ⟨rfl, _, rfl, ?_⟩⟩⟩⟩⟩
        exact tail a b xs ys ds (.inr sx) (.inr sy) dx dy hl hok
end Rs

namespace Rs
open PySem PySem.Spec PyProof.Rows L2
/-! ### what stays while the box is drawn from; the runs' sizes -/
theorem Lst.but {α : Type} {R : Rel α} (st : Stable R) {H H' : Hp} {a l x : Addr} {xs : List α} (B : Box H a l) (k : But [a, l] H H') (L : Lst R H x xs) (n : x ∉ [a, l]) : Lst R H' x xs := L.keep st (B.tup k) fun o e => k _ _ e n
theorem Box.fresh {H : Hp} {a l x : Addr} (B : Box H a l) (h : H x = none) : x ∉ [a, l] := by
  obtain ⟨ns, z, e1, e2, _⟩ := B.ex
  exact nn (ne_of_none e1 h).symm (ne_of_none e2 h).symm
/-- runs as they should be -/
def RunsOk (ks : List Str) (n : Nat) (rs : List (List Pr)) : Prop := ∀ r ∈ rs, r.length ≤ n ∧ ∀ q ∈ r, isRow ks q.2 = true
theorem outer_ok {ks : List Str} {o : Ord} {size : Int} (h1 : 1 ≤ size) {N : Nat} : ∀ (n : Nat) (left late : List Pr) (found : List (List Pr)), Fine ks (left ++ late) → left.length + late.length ≤ N → RunsOk ks N found →
    RunsOk ks N (outer o size n left late found) ∧ (outer o size n left late found).length ≤ found.length + n
  | 0, left, late, found, _, _, c => ⟨c, by simp [outer]⟩
  | n + 1, left, late, found, a, b, c => by
    unfold outer
    by_cases hne : left = [] ∧ late = []
    · rw [if_pos hne]
      exact ⟨c, by omega⟩
    · rw [if_neg hne]
      have fine0 : Fine ks (left ++ (late ++ [])) := by rw [List.append_nil]; exact a
      obtain ⟨k1, k2, k3, k4, k5⟩ := inner_keeps (ks := ks) (o := o) (size := size) (left.length + late.length + 1) left late [] [] fine0 (by simp) (by simp)
      generalize inner o size (left.length + late.length + 1) left late [] [] = R2 at k1 k2 k3 k4 k5
      simp only [List.length_nil] at k2
      obtain ⟨g1, g2⟩ := outer_ok (N := N) h1 n R2.1 R2.2.1 (found ++ [R2.2.2]) k1 (by omega) (fun r hr => by
        rcases List.mem_append.mp hr with z | z
        · exact c r z
        · rw [List.mem_singleton.mp z]
          exact ⟨by omega, k3⟩)
      rw [List.length_append, List.length_singleton] at g2
      exact ⟨g1, by omega⟩
theorem runsOf_ok {ks : List Str} {o : Ord} {size : Int} (h1 : 1 ≤ size) {xs : List Pr} (f : Fine ks xs) : RunsOk ks xs.length (runsOf o size xs) ∧ (runsOf o size xs).length ≤ xs.length + 1 := by
  have := outer_ok (o := o) h1 (xs.length + 1) xs [] [] (by rw [List.append_nil]; exact f) (by simp) (N := xs.length) (fun r hr => by simp at hr)
  simpa [runsOf] using this
theorem parts_ok {ks : List Str} {o : Ord} {size : Int} (h1 : 1 ≤ size) {xs : List Pr} (f : Fine ks xs) : RunsOk ks xs.length (parts o size xs) ∧ (parts o size xs).length ≤ xs.length + 1 := by
  refine ⟨fun r hr => ?_, ?_⟩
  · obtain ⟨i, _, rfl⟩ := List.mem_map.mp hr
    have p := srt_perm o (slc size xs i)
    have fs : Fine ks (slc size xs i) := (f.drop _).take _
    refine ⟨?_, (fs.perm p).row⟩
    rw [p.length_eq]
    unfold slc
    rw [List.length_take, List.length_drop]
    omega
  · have := nslc_le (n := xs.length) h1
    simp [parts]
    omega
theorem runs_data_ok {ks : List Str} {n : Nat} {rs : List (List Pr)} (h : RunsOk ks n rs) (hn : n ≤ 100000) (hl : rs.length ≤ 100000) (hk : ks.length ≤ 4) : okD 5 (runsD rs) :=
  list_ok (n := 4) hl fun r hr => list_ok (n := 3) (Nat.le_trans (h r hr).1 hn) fun q hq => pair_ok ((h r hr).2 q hq) (by omega) 0
theorem GoodOrd.len {ks : List Str} {o : Ord} (g : GoodOrd ks o) (h : ks.length ≤ 4) : o.length ≤ 4 := by
  have nd := g.nd
  have sub : (o.map (·.1)) ⊆ List.range ks.length := fun x hx => by
    obtain ⟨t, ht, rfl⟩ := List.mem_map.mp hx
    exact List.mem_range.mpr (g.col t ht)
  have := nd.length_le_of_subset sub
  rw [List.length_map, List.length_range] at this
  omega
theorem paired_mem {α β : Type} {F : α → β → Prop} : ∀ {l : List α} {m : List β}, Paired F l m → ∀ {a : α}, a ∈ l → ∃ b ∈ m, F a b
  | _, _, .nil, _, h => by simp at h
  | _, _, .cons q t, a, h => by
    rcases List.mem_cons.mp h with e | e
    · subst e; exact ⟨_, List.mem_cons_self .., q⟩
    · obtain ⟨b, hb, f⟩ := paired_mem t e
      exact ⟨b, List.mem_cons_of_mem _ hb, f⟩
end Rs

/-! raise of an own class; try: .. except X: .. -/
namespace Rs
open PySem PySem.Spec PyProof.Rows L2
section
variable {X : Cx} {W : WX} {E : XK} {k : Nat} {ps : List Str} {sp : Sp} {x m : Str} {e : Expr} {es : List Expr} {t : TA} {p p2 pos pos2 : Pos} {j : Nat}
/-- f(..) in a try's body -/
theorem pe_callCS (F : Can X.prog X.w X.K X.mg X.base k (x, none) ps sp) (hr : Room k X.A) (hg : Gl X x) (hm : X.mg x = some (.ref (He.ga X.K x))) (tk : Takes X W)
    (ha : PA X (e :: es) t) (hdb : (x == ("__debug__" : Str)) = false := by decide) (he : starEach (e :: es) X.env = (false, eval e X.env) :: starEach es X.env := by rfl) (hpl : (backTo pos (starEach es X.env)).any (·.1) = false := by rfl) :
    PE X (.Call (.Name x p) (e :: es) [] pos) (tCallS sp (WE W) t) := by
  obtain ⟨fd, F, b, kp⟩ := F
  exact pe_callS F hr hg hm kp b (fun σ => passAt tk σ) ha hdb he hpl
/-- raise x('..'), x without an own __init__ -/
theorem ps_raiseE (c : PySem.W.excIn X.K (He.ga X.K x) He.veBase "ValueError.__new__" = true ∧ PySem.W.keepIn X.K (.ref (He.ga X.K x)) = true ∧ PySem.W.subIn X.K (.ref (He.ga X.K x)) (.type "BaseException") = some true ∧ PySem.W.typeIn X.K (.ref (He.ga X.K x)) = some (.type "type"))
    (gC : X.mg x = some (.ref (He.ga X.K x))) (hg : Gl X x) (hc : X.calm = true) (tk : Takes X (fun cls d _ H => E cls d H)) (hdb : (x == ("__debug__" : Str)) = false := by decide) :
    PS X (.Raise (some (.Call (.Name x p) [.Constant (.str m) j p2] [] pos)) none pos2) (tRaise E (.ref (He.ga X.K x))) :=
  ps_raise hc tk (pmk_own PySem.F.excBase_ValueError c.1 gC c.2.1 (raises_own c.2.2.1 c.2.2.2) hg hdb)
end
/-- try: body, except c: suite -/
def tTryO (K : PySem.W.Frag) (c : Value) (E : XK) (tb : WX → TS) (ts : TS) : TS := fun D σ H => tb (wOnly K c (fun _ _ _ => ts) (fun cls d _ H => E cls d H) D) D σ H
section
variable {X : Cx} {E : XK} {x : Str} {body suite : List Stmt} {b₀ : Stmt} {np pos pos' : Pos} {tb : WX → TS} {ts : TS}
theorem ps_tryO (hs : X.stack = X.env :: X.outer) (hf : X.env.frame = some X.env.locals) (hg : Gl X x) (hm : X.mg x = some (.ref (He.ga X.K x))) (tk : Takes X (fun cls d _ H => E cls d H))
    (hb : ∀ (W : WX) (pn : List (Addr × Obj)) (xe : Value → Shared → Prop), Takes (X.tr pn xe) W → PassesOwn (model X.prog X.w) X.A X.env xe → PSs (X.tr pn xe) body (tb W))
    (hsu : ∀ (a : Addr) (oe : Obj) (cls : Value) (d : Option Addr) (pn : List (Addr × Obj)), Zc cls d oe → (∃ vs, oe.data = .fields vs) → PSs (X.suite a ((a, oe) :: pn)) (b₀ :: suite) ts) (hdb : (x == ("__debug__" : Str)) = false := by decide) :
    PS X (.Try body [.ExceptHandler (some (.Name x np)) none (b₀ :: suite) pos'] [] [] pos) (tTryO X.K (.ref (He.ga X.K x)) E tb ts) :=
  ps_try_only (ts := fun _ _ _ => ts) hs hf ⟨hg, hdb, .inl hm⟩ tk hb hsu
end
end Rs

/-! sorted(d), d a dict whose keys are pairs of ints -/
namespace Rs
open PySem PySem.Spec PyProof.Rows L2
/-- the pair that stands at a value -/
def pairAt (H : Hp) : V → Int × Int
  | .ref a => (match H a with
    | some (.tup [.int x, .int y]) => (x, y)
    | _ => (0, 0))
  | _ => (0, 0)
theorem pairAt_of {H : Hp} {a : Addr} {q : Int × Int} (h : H a = some (.tup [.int q.1, .int q.2])) : pairAt H (.ref a) = q := by
  show (match H a with
    | some (.tup [.int x, .int y]) => (x, y)
    | _ => (0, 0)) = q
  rw [h]
def kkP (q : Int × Int) : List Key := [.inl q.1, .inl q.2]
def rSortedKT : List V → Hp → VK → Prop := fun vs H Q => ∃ (a : Addr) (kvs : List (List Key × V)) (qs : List (Int × Int)), vs = [.ref a] ∧ H a = some (.dT kvs) ∧ kvs.map (·.1) = qs.map kkP ∧
  ∀ (zs : List V) (ps : List (Int × Int)) (p : Addr), ps.Perm qs → ps.Pairwise (fun x y => SrtO.lexB y x = false) → Paired (fun v q => IsTp H v [.int q.1, .int q.2]) zs ps → H p = none → Q (.ref p) (upd H p (.lst zs))
section
variable {X : Cx}
theorem cr_sortedKT (hcalm : X.calm = true) : CallR X (.builtin "sorted") rSortedKT := by
  intro pins s σ H vs us Q I r h
  obtain ⟨a, kvs, qs, rfl, hd, hks, q⟩ := h
  obtain ⟨u, rfl, ru⟩ := vals1 r
  obtain rfl : u = Value.ref a := ru
  obtain ⟨z, hs, ks, pr, o, es, ep, ho, hx, hdt, he, hn⟩ := (show ObjOk X.prog X.w H s.heap a (.dT kvs) from (Rd.of hd).ok I.hok)
  have l1 : es.size = ks.length := size_of_entries he
  have l2 : kvs.length = ks.length := Paired.length pr
  have ik := isKeys_of pr
  generalize hbs : ks.map (fun x => x.2.1) = bs at ik
  have lb : bs.length = ks.length := by rw [← hbs, List.length_map]
  refine Calls.call_function_entry PyProof.Rows.kind_sorted PyProof.Rows.plain_sorted PyProof.Rows.entry_sorted (PyProof.Rows.args_sorted1 _) ?_
  unfold Builtin.«sorted»
  refine wpAny_bind (m := checkCount "sorted" 1 1 _) (wpAny_pure ?_)
  refine wpAny_bind (PySem.W.kdu_collect (A := X.A.in1) (kdl_raw hs hx hdt) (I.ok.hd hcalm) ho (by omega) fun h' tk acc hk it => ?_)
  have ea : acc.toList = bs.map Value.ref := by
    have hl : acc.toList.length = ks.length := by rw [Array.length_toList, it.1]; exact l1
    rw [← hbs, List.map_map]
    apply List.ext_getElem?
    intro j
    rw [List.getElem?_map]
    cases hj : acc.toList[j]? with
    | none =>
      have h1 := List.getElem?_eq_none_iff.mp hj
      rw [List.getElem?_eq_none (by omega)]
      all_goals rfl
    | some v =>
      obtain ⟨en, hen, hv⟩ := it.2 j v (by rw [← Array.getElem?_toList]; exact hj)
      have qe := entry_at he j
      rw [hen] at qe
      cases hb : ks[j]? with
      | none =>
        rw [hb] at qe
        exact nomatch (show some en = none from qe)
      | some b =>
        rw [hb] at qe
        have e2 : en = entryOfKey (tupleKind (mixKind X.prog X.w)) b := Option.some.inj qe
        rw [hv, e2]
        all_goals rfl
  have lz : acc.toList.length ≤ sizeLine := by rw [ea, List.length_map]; omega
  -- the pairs
  have pq : Paired (fun (b : Addr) (q : Int × Int) => H b = some (.tup [.int q.1, .int q.2])) bs qs := by
    have key : ∀ {kvs : List (List Key × V)} {bs : List Addr} {qs : List (Int × Int)}, IsKeys H kvs bs → kvs.map (·.1) = qs.map kkP → Paired (fun (b : Addr) (q : Int × Int) => H b = some (.tup [.int q.1, .int q.2])) bs qs := by
      intro kvs bs qs ik
      induction ik generalizing qs with
      | nil =>
        intro e
        cases qs with
        | nil => exact .nil
        | cons q qs => simp at e
      | cons h t ih =>
        intro e
        cases qs with
        | nil => simp at e
        | cons q qs =>
          rw [List.map_cons, List.map_cons] at e
          injection e with e1 e2
          refine .cons ?_ (ih e2)
          rw [h, e1]
          rfl
    exact key ik hks
  have hp : ∀ b ∈ bs, ∃ q : Int × Int, H b = some (.tup [.int q.1, .int q.2]) := fun b hb => by
    obtain ⟨j, hj, e⟩ := List.getElem_of_mem hb
    obtain ⟨q, _, hq⟩ := P2.get pq (List.getElem?_eq_getElem hj)
    rw [e] at hq
    exact ⟨q, hq⟩
  have I1 : Inv X pins σ H { s with heap := h', toks := tk } := I.kept hk
  refine wpAny_bind (wpAny_newList ?_ lz)
  have hoL : (h'.push (seqObj "list" acc.toList.toArray 0)).get? h'.objs.size = some (seqObj "list" acc.toList.toArray 0) := Heap.get?_push_size _ rfl
  show wpAny _ _ _ _ _ { s with heap := h'.push (seqObj "list" acc.toList.toArray 0), toks := tk }
  have isp : ∀ v ∈ acc.toList, Srt.IsPair (h'.push (seqObj "list" acc.toList.toArray 0)) v (pairAt H (backV v)).1 (pairAt H (backV v)).2 := fun v hv => by
    rw [ea] at hv
    obtain ⟨b, hb, rfl⟩ := List.mem_map.mp hv
    obtain ⟨q, hq⟩ := hp b hb
    have e : pairAt H (backV (Value.ref b)) = q := pairAt_of hq
    rw [e]
    obtain ⟨_, its2, r2, o2, ho2, hc2, n2, hd2⟩ := I1.hok _ _ hq
    obtain ⟨u1, u2, rfl, ri, rj⟩ := vals2 r2
    obtain ⟨t1, rfl⟩ := ri
    obtain ⟨t2, rfl⟩ := rj
    exact ⟨b, o2, t1, t2, n2, rfl, Heap.get?_push_of_some _ ho2, hc2, hd2⟩
  refine wpAny_bind (wpAny_holding (wpAny_call_entry PyProof.Rows.slot_list_sort ⟨_, hoL, rfl⟩ PyProof.Rows.entry_list_sort
    (SrtO.list_sort_ord (s := { s with heap := h'.push (seqObj "list" acc.toList.toArray 0), toks := tk }) (SrtO.swo_lex fun u => pairAt H (backV u)) hoL lz (fun h2 => SrtO.pairs_sortableO (by omega) isp fun o e => ?_) fun out h1 h2 => ⟨_, rfl, ?_⟩) (PyProof.Rows.args_list_sort _)))
  · have e' : some o = some (seqObj "list" acc.toList.toArray 0) := e.symm.trans hoL
    cases e'
    intro c
    exact absurd (Value.type.inj c) (by decide)
  obtain ⟨e', he'⟩ := PyProof.Rows.sortedHeap_at (vs := acc.toList) (out := out.toArray) hoL
  have perm := h2.perm
  rw [ea] at perm
  have h3 : ∀ u ∈ out, ∃ b ∈ bs, u = Value.ref b := fun u hu => by
    obtain ⟨b, hb, e⟩ := List.mem_map.mp (perm.mem_iff.mp hu)
    exact ⟨b, hb, e.symm⟩
  have hlen : (out.map backV).length ≤ sizeLine := by
    rw [List.length_map, perm.length_eq, List.length_map]
    omega
  have pb : (bs.map fun b => pairAt H (.ref b)) = qs := by
    have key : ∀ {bs : List Addr} {qs : List (Int × Int)}, Paired (fun (b : Addr) (q : Int × Int) => H b = some (.tup [.int q.1, .int q.2])) bs qs → (bs.map fun b => pairAt H (.ref b)) = qs := by
      intro bs qs p
      induction p with
      | nil => rfl
      | cons h t ih => rw [List.map_cons, ih, pairAt_of h]
    exact key pq
  refine wpAny_pure ⟨_, rfl, .ref h'.objs.size, upd H h'.objs.size (.lst (out.map backV)), I1.laid (t' := tk) (fun b u e => ?_) (Nat.le_refl _)
    (show ObjOk X.prog X.w _ _ _ (.lst (out.map backV)) from ⟨hlen, out, e', vals_back fun u hu => (let ⟨b, _, e⟩ := h3 u hu; ⟨b, e⟩), he'⟩), rfl, q (out.map backV) (out.map fun u => pairAt H (backV u)) _ ?_ ?_ ?_ (I1.hok.fresh (Nat.le_refl _))⟩
  · have hb : b < h'.objs.size := Heap.lt_size e
    rw [PyProof.Rows.sortedHeap_old (Nat.ne_of_lt hb) (by rw [size_push']; exact Nat.lt_succ_of_lt hb)]
    exact Heap.get?_push_of_some _ e
  · have := perm.map fun u => pairAt H (backV u)
    rw [List.map_map] at this
    have e : (fun u => pairAt H (backV u)) ∘ Value.ref = fun b => pairAt H (.ref b) := rfl
    rw [e, pb] at this
    exact this
  · exact List.pairwise_map.mpr h1
  · refine P2.map out fun u hu => ?_
    obtain ⟨b, hb, rfl⟩ := h3 u hu
    obtain ⟨q, hq⟩ := hp b hb
    have e : pairAt H (backV (Value.ref b)) = q := pairAt_of hq
    show IsTp H (.ref b) [.int (pairAt H (backV (Value.ref b))).1, .int (pairAt H (backV (Value.ref b))).2]
    rw [e]
    exact ⟨b, rfl, hq⟩
end
end Rs

/-! dict(pairs), the keys tuples -/
namespace Rs
open PySem PySem.Spec PyProof.Rows L2
abbrev TK := List Key × Addr × Value
def mergedH (acc : List TK) (rest : List TK) : List TK := rest.foldl (fun a q => storedH a q.1 q.2.1 q.2.2) acc
theorem storedH_in {acc : List TK} {k : List Key} {a : Addr} {v : Value} {x : TK} (h : x ∈ storedH acc k a v) : x.2.1 = a ∨ ∃ y ∈ acc, y.2.1 = x.2.1 := by
  unfold storedH at h
  split at h
  · obtain ⟨y, hy, rfl⟩ := List.mem_map.mp h
    refine .inr ⟨y, hy, ?_⟩
    unfold putAt
    split <;> rfl
  · rcases List.mem_append.mp h with z | z
    · exact .inr ⟨x, z, rfl⟩
    · rw [List.mem_singleton.mp z]
      exact .inl rfl
theorem storedH_len (acc : List TK) (k : List Key) (a : Addr) (v : Value) : (storedH acc k a v).length ≤ acc.length + 1 := by
  unfold storedH
  split
  · rw [List.length_map]; omega
  · rw [List.length_append, List.length_singleton]; omega
section
variable {prog : Program} {w : World} {A : Around} {E : Value → Shared → Prop}
theorem dictT_keep {h h' : Heap} {S I : Addr} {acc : List TK} (d : h.DictOfH (tupleKind (mixKind prog w)) S acc) (k : ∀ b o, b ≠ I → h.get? b = some o → h'.get? b = some o) (hS : S ≠ I) (ha : ∀ x ∈ acc, x.2.1 ≠ I) : h'.DictOfH (tupleKind (mixKind prog w)) S acc := by
  obtain ⟨o, es, ep, ho, h1, h2, h3, h4, h5⟩ := d
  refine ⟨o, es, ep, k _ _ hS ho, h1, h2, h3, fun x hx => ?_, h5⟩
  obtain ⟨o2, it, n, e, r⟩ := h4 x hx
  exact ⟨o2, it, n, k _ _ (ha x hx) e, r⟩
theorem upd_loopT {R : Result → Shared → Prop} {S I l : Addr} {items : Array Value} {res : Value} (hu : (tupleKind (mixKind prog w)).room A.in1) (hh : A.handled = none) (hlI : l ≠ I) (hSI : S ≠ I) (hSl : S ≠ l) :
    ∀ (rest : List TK) (i : Nat) (acc : List TK) (ix : Int) (t : Tok) (s : Shared), items.size = i + rest.length → acc.length + rest.length ≤ sizeLine →
      (∀ (j : Nat) (q : TK), rest[j]? = some q → ∃ b : Addr, items[i + j]? = some (.ref b) ∧ b ≠ S ∧ b ≠ I ∧ IsTup s.heap b #[.ref q.2.1, q.2.2] ∧ q.2.1 ≠ S ∧ q.2.1 ≠ I ∧ (tupleKind (mixKind prog w)).is s.heap q.1 q.2.1) →
      (∀ x ∈ acc, x.2.1 ≠ I) → s.heap.IsListIter I l i → s.heap.IsList l items → s.heap.DictOfH (tupleKind (mixKind prog w)) S acc →
      (∀ h' tk, h'.DictOfH (tupleKind (mixKind prog w)) S (mergedH acc rest) → (∀ b o, b ≠ S → b ≠ I → s.heap.get? b = some o → h'.get? b = some o) → R (.ok (.ret res)) { s with heap := h', toks := tk }) →
      codeAny (model prog w) A (.builtin "dict.update.loop" ⟨[.ref S, .ref I, .int ix t, res], []⟩) R s
  | [], i, acc, ix, t, s, hsz, hln, ht, hacc, hit, hl, hm, hR => by
    refine codeAny_builtin ud_entry ?_
    rw [Around.under_plainId ud_plain _]
    show wpAny _ A.in1 (pyNext (.ref I) >>= _) _ _ s
    refine wpAny_bind (wpAny_pyNext_list_end (A := A.in1) hh hit hl (by first | exact Array.getElem?_eq_none (Nat.le_of_eq hsz) | (simp at hsz; simp; omega)) fun h' he => ?_)
    show wpAny _ A.in1 (Builtin.Dict.addKeywords S [] >>= _) _ _ _
    refine wpAny_bind (wpAny_pure (wpAny_pure ?_))
    exact hR h' s.toks (dictT_keep hm he hSI hacc) fun b o _ hb e => he b o hb e
  | q :: rest, i, acc, ix, t, s, hsz, hln, ht, hacc, hit, hl, hm, hR => by
    obtain ⟨b, hb, hbS, hbI, htup, hkS, hkI, hk⟩ := ht 0 q rfl
    rw [List.length_cons] at hsz hln
    refine codeAny_builtin ud_entry ?_
    rw [Around.under_plainId ud_plain _]
    show wpAny _ A.in1 (pyNext (.ref I) >>= _) _ _ s
    refine wpAny_bind (wpAny_pyNext_list_item (x := .ref b) hit hl (by simpa using hb) fun h1 hit1 hs1 => ?_)
    have ht1 : IsTup h1 b #[.ref q.2.1, q.2.2] := htup.extBut hs1.extBut hbI
    have hl1 : h1.IsList l items := hl.extBut hs1.extBut hlI
    have k1 : ∀ b o, b ≠ I → s.heap.get? b = some o → h1.get? b = some o := fun b o n e => hs1.extBut b o n e
    have hm1 : h1.DictOfH (tupleKind (mixKind prog w)) S acc := dictT_keep hm k1 hSI hacc
    have hk1 : (tupleKind (mixKind prog w)).is h1 q.1 q.2.1 := by
      obtain ⟨o2, it, n, e, r⟩ := hk
      exact ⟨o2, it, n, k1 _ _ hkI e, r⟩
    obtain ⟨o, ho, hc, n, hd⟩ := id ht1
    show wpAny _ A.in1 (holding [Value.ref b] _ >>= _) _ _ _
    refine wpAny_bind (wpAny_holding ?_)
    refine wpAny_bind (wpAny_tryCatch ?_)
    unfold Builtin.Dict.pairItems
    refine wpAny_bind (wpAny_typeOf (T := "tuple") ⟨o, ho, hc⟩ ?_)
    rw [if_pos (by first | decide | rfl | simp)]
    refine wpAny_bind (wpAny_seqItems ho hd (wpAny_pure ?_))
    show wpAny _ A.in1 (holding [.ref q.2.1, q.2.2] (dictSet S (.ref q.2.1) q.2.2)) _ _ _
    refine wpAny_holding (wpAny_dictSet_heap (hsz := by omega) hu hk1 hm1 (fun h2 hm2 hs2 => ?_))
    have k2 : ∀ b o, b ≠ S → h1.get? b = some o → h2.get? b = some o := fun b o n e => hs2.extBut b o n e
    refine wpAny_pure ⟨plainId_quiet ud_plain _, upd_loopT (items := items) hu hh hlI hSI hSl rest (i + 1) (storedH acc q.1 q.2.1 q.2.2) (ix + 1) 0 _ (show items.size = i + 1 + rest.length by omega) ?_ (fun j q' e => ?_) (fun x hx => ?_) ?_ ?_ hm2 fun h' tk hd' k => ?_⟩
    · have z := storedH_len acc q.1 q.2.1 q.2.2
      omega
    · obtain ⟨b', hb', hbS', hbI', htup', hkS', hkI', hk'⟩ := ht (j + 1) q' (by simpa using e)
      refine ⟨b', ?_, hbS', hbI', (htup'.extBut hs1.extBut hbI').extBut hs2.extBut hbS', hkS', hkI', ?_⟩
      · rw [show i + 1 + j = i + (j + 1) by omega]
        exact hb'
      · obtain ⟨o2, it, n, e, r⟩ := hk'
        exact ⟨o2, it, n, k2 _ _ hkS' (k1 _ _ hkI' e), r⟩
    · rcases storedH_in hx with z | ⟨y, hy, z⟩
      · rw [z]; exact hkI
      · rw [← z]; exact hacc y hy
    · exact hit1.at fun o' e => hs2.extBut I o' (Ne.symm hSI) e
    · exact hl1.extBut hs2.extBut (Ne.symm hSl)
    · exact hR h' tk hd' fun c oc h3 h4 e => k c oc h3 h4 (k2 c oc h3 (k1 c oc h4 e))
theorem call_dict_pairsT {s : Shared} {l : Addr} {ol : Obj} {items : Array Value} {n : Nat} {prs : List TK} {Q : Value → Shared → Prop} (hu : (tupleKind (mixKind prog w)).room A.in1.in1) (hh : A.handled = none) (hl : s.heap.get? l = some ol) (hc : ol.cls = .type "list") (hd : ol.dict = none)
    (hdat : ol.data = .seq items n) (hsz : items.size = prs.length) (hln : prs.length ≤ sizeLine)
    (ht : ∀ (j : Nat) (q : TK), prs[j]? = some q → ∃ b : Addr, items[j]? = some (.ref b) ∧ IsTup s.heap b #[.ref q.2.1, q.2.2] ∧ (tupleKind (mixKind prog w)).is s.heap q.1 q.2.1)
    (h : ∀ h' tk, h'.DictOfH (tupleKind (mixKind prog w)) s.heap.objs.size (mergedH [] prs) → (∀ b o, s.heap.get? b = some o → h'.get? b = some o) → Q (.ref s.heap.objs.size) { s with heap := h', toks := tk }) :
    wpAny (model prog w) A (call (.type "dict") [.ref l]) Q E s := by
  refine callType_codes (Q₁ := fun obj s₁ => obj = .ref s.heap.objs.size ∧ s₁ = { s with heap := s.heap.push { cls := .type "dict", data := .dict #[] } }) PySem.F.kt_called_dict (PySem.F.kt_typeCall_dict_1 _) PySem.F.entry_dict_init (kt_code_dict_new _ ⟨rfl, rfl⟩) ?_
  rintro obj s₁ ⟨rfl, rfl⟩
  have hnew0 : (s.heap.push { cls := .type "dict", data := .dict #[] }).DictOf (mixKind prog w) s.heap.objs.size [] := Heap.DictOf.new s.heap
  have hnew : (s.heap.push { cls := .type "dict", data := .dict #[] }).DictOfH (tupleKind (mixKind prog w)) s.heap.objs.size [] := Heap.DictOfH.new s.heap
  have k0 : ∀ b o, s.heap.get? b = some o → (s.heap.push { cls := .type "dict", data := .dict #[] }).get? b = some o := fun b o e => Heap.get?_push_of_some _ e
  refine ⟨hnew0.typeIs, PySem.F.args_dict_init_2 _ _, ?_⟩
  unfold Builtin.«dict.__init__»
  refine wpAny_bind ?_
  unfold Builtin.Dict.selfAndRest
  refine wpAny_bind (wpAny_notOrdered_dict hnew0.typeIs ?_)
  show wpAny _ _ (pure (s.heap.objs.size, [Value.ref l])) _ _ _
  refine wpAny_pure ?_
  show wpAny _ _ (Builtin.Dict.updateFrom "dict.__init__" s.heap.objs.size (.ref l) [] .none) _ _ _
  unfold Builtin.Dict.updateFrom
  refine wpAny_bind (wpAny_typeOf (T := "list") ⟨ol, k0 _ _ hl, hc⟩ ?_)
  rw [if_pos (by first | decide | rfl | simp)]
  refine wpAny_bind (miss_list (k0 _ _ hl) hc hdat hd hh fun h1 tk1 hk1 => ?_)
  rw [if_pos (show (none : Option Value).isNone = true from rfl)]
  refine wpAny_bind (wpAny_rule ?_)
  have hl1 : h1.IsList l items := ⟨ol, hk1 _ _ (k0 _ _ hl), hc, n, hdat⟩
  have hS1 : s.heap.objs.size < h1.objs.size := by
    have e : (s.heap.push { cls := .type "dict", data := .dict #[] }).get? s.heap.objs.size = some { cls := .type "dict", data := .dict #[] } := Heap.get?_push_size _ rfl
    exact Heap.lt_size (hk1 _ _ e)
  refine wpAny_bind (wpAny_pyIter_list hl1 ?_)
  have k2 : ∀ b o, h1.get? b = some o → (h1.push { cls := .type "list_iterator", data := .fields #[.ref l, .int 0 0] }).get? b = some o := fun b o e => Heap.get?_push_of_some _ e
  have kall : ∀ b o, s.heap.get? b = some o → (h1.push { cls := .type "list_iterator", data := .fields #[.ref l, .int 0 0] }).get? b = some o := fun b o e => k2 _ _ (hk1 _ _ (k0 _ _ e))
  have hlt : l < s.heap.objs.size := Heap.lt_size hl
  have isnew : (h1.push { cls := .type "list_iterator", data := .fields #[.ref l, .int 0 0] }).DictOfH (tupleKind (mixKind prog w)) s.heap.objs.size [] := by
    obtain ⟨o, es, ep, ho, q⟩ := hnew
    exact ⟨o, es, ep, k2 _ _ (hk1 _ _ ho), q.1, q.2.1, q.2.2.1, fun x hx => (by simp at hx), q.2.2.2.2⟩
  have key := upd_loopT (prog := prog) (w := w) (A := A.in1) (R := wants (fun r s₂ => r = .none ∧ Q (.ref s.heap.objs.size) s₂) E) (S := s.heap.objs.size) (I := h1.objs.size) (l := l) (items := items) (res := Value.none) hu hh
    (Nat.ne_of_lt (Nat.lt_trans hlt hS1)) (Nat.ne_of_lt hS1) (Nat.ne_of_gt hlt) prs 0 [] 0 0
    { s with heap := h1.push { cls := .type "list_iterator", data := .fields #[.ref l, .int 0 0] }, toks := tk1 } (by rw [hsz, Nat.zero_add]) (by rw [List.length_nil, Nat.zero_add]; exact hln)
    (fun j q e => by
      obtain ⟨b, e1, e2, e3⟩ := ht j q e
      have hb : b < s.heap.objs.size := e2.lt
      obtain ⟨o2, it, n2, e4, r4⟩ := e3
      have hk : q.2.1 < s.heap.objs.size := Heap.lt_size e4
      exact ⟨b, by rw [Nat.zero_add]; exact e1, Nat.ne_of_lt hb, Nat.ne_of_lt (Nat.lt_trans hb hS1), e2.keeps fun c o z => kall _ _ z, Nat.ne_of_lt hk, Nat.ne_of_lt (Nat.lt_trans hk hS1), ⟨o2, it, n2, kall _ _ e4, r4⟩⟩)
    (fun x hx => by simp at hx)
    ⟨_, Heap.get?_push_size _ rfl, rfl, rfl⟩ (hl1.at fun o e => k2 _ _ e) isnew
    (fun h' tk hd' k => ⟨rfl, h h' tk hd' fun b o e => k b o (Nat.ne_of_lt (Heap.lt_size e)) (Nat.ne_of_lt (Nat.lt_trans (Heap.lt_size e) hS1)) (kall _ _ e)⟩)
  first
    | exact wpAny_pure ⟨plainId_quiet ud_plain _, key⟩
    | exact wpAny_bind (wpAny_pure (wpAny_pure ⟨plainId_quiet ud_plain _, key⟩))
end
def mergeT (kvs more : List (List Key × V)) : List (List Key × V) := more.foldl (fun acc kv => putK acc kv.1 kv.2) kvs
theorem KT_merge {H : Hp} : ∀ {more : List (List Key × V)} {rs : List TK} {kvs : List (List Key × V)} {xs : List TK}, KT H more rs → KT H kvs xs → KT H (mergeT kvs more) (mergedH xs rs)
  | [], [], _, _, _, q => q
  | p :: more, q :: rs, kvs, xs, .cons h t, r0 => by
    have e : KT H (putK kvs p.1 p.2) (storedH xs q.1 q.2.1 q.2.2) := by
      have := KT.put r0 p.1 h.2.1 h.2.2
      rw [← h.1]
      exact this
    exact KT_merge (more := more) (rs := rs) t e
theorem mergeT_len : ∀ (more kvs : List (List Key × V)), (mergeT kvs more).length ≤ kvs.length + more.length
  | [], kvs => by simp [mergeT]
  | p :: more, kvs => by
    have a := mergeT_len more (putK kvs p.1 p.2)
    have b := length_putK kvs p.1 p.2
    show (mergeT (putK kvs p.1 p.2) more).length ≤ _
    rw [List.length_cons]
    omega
/-- dict(xs) of a list of pairs (key, value), the keys tuples -/
def xDictPT (K : PySem.W.Frag) : List V → Hp → VK → Prop := fun xs H Q => ∃ (a : Addr) (ps : List Addr) (kvs : List (List Key × V)), xs = [.ref a] ∧ SqL K H a (ps.map V.ref) ∧ Paired (fun p kv => ∃ b, SqT K H p [.ref b, kv.2] ∧ H b = some (.tup (kv.1.map kV))) ps kvs ∧
  ∀ p, H p = none → Q (.ref p) (upd H p (.dT (mergeT [] kvs)))
theorem hu16 {A : Around} {k : Nat} (hr : Room k A) : A.units + 16 < cLine := by have := hr.un; omega
section
variable {X : Cx}
theorem pairs_ofT {pins : List (Addr × Obj)} {σ : L2.St} {H : Hp} {s : Shared} (I : Inv X pins σ H s) : ∀ {ps : List Addr} {kvs : List (List Key × V)}, Paired (fun p kv => ∃ b, SqT X.K H p [.ref b, kv.2] ∧ H b = some (.tup (kv.1.map kV))) ps kvs →
    ∃ prs : List TK, KT H kvs prs ∧ prs.length = ps.length ∧ ∀ (j : Nat) (q : TK), prs[j]? = some q → ∃ b : Addr, ps[j]? = some b ∧ IsTup s.heap b #[.ref q.2.1, q.2.2] ∧ (tupleKind (mixKind X.prog X.w)).is s.heap q.1 q.2.1
  | _, _, .nil => ⟨[], .nil, rfl, fun j q e => by simp at e⟩
  | _, _, .cons (a := p) (b := kv) h t => by
    obtain ⟨prs, r, hl, hp⟩ := pairs_ofT I t
    obtain ⟨kb, h1, h2⟩ := h
    obtain ⟨its, rv, ht, _⟩ := I.tuple h1
    obtain ⟨u, y, ei, ru, ry⟩ := vals2 rv
    subst ei
    obtain rfl : u = Value.ref kb := ru
    refine ⟨(kv.1, kb, y) :: prs, .cons ⟨rfl, h2, ry⟩ r, by rw [List.length_cons, List.length_cons, hl], fun j q e => ?_⟩
    cases j with
    | zero =>
      have e' : (kv.1, kb, y) = q := Option.some.inj e
      subst e'
      exact ⟨p, rfl, ht, key_of I.hok h2⟩
    | succ j =>
      obtain ⟨b, e1, e2, e3⟩ := hp j q (by simpa using e)
      exact ⟨b, by simpa using e1, e2, e3⟩
theorem call_dictPT (hu : X.A.units + 16 < cLine) (hcalm : X.calm = true) : CallR X (.type "dict") (xDictPT X.K) := by
  intro pins s σ H xs us Q I r q
  obtain ⟨a, ps, kvs, ex, hq, hp, q⟩ := q
  subst ex
  obtain ⟨u, eu, rx⟩ := vals1 r
  subst eu
  cases rx
  obtain ⟨its, rv, pl, hz⟩ := I.list hq
  have ei := refs_at rv
  subst ei
  rw [List.length_map] at hz
  obtain ⟨prs, rel, hl, hpr⟩ := pairs_ofT I hp
  have lk : kvs.length = prs.length := Paired.length rel
  obtain ⟨o, n, ho, hc, hd, hdat⟩ := pl
  refine call_dict_pairsT (prs := prs) ?_ (I.ok.hd hcalm) ho hc hd hdat (by simp [hl]) (by rw [hl]; exact hz) (fun j q' e => ?_) fun h' tk hd' k => ?_
  · exact tupleKind_room_in1 (by simp only [Around.in1_units]; omega)
  · obtain ⟨b, e1, e2, e3⟩ := hpr j q' e
    exact ⟨b, by simp [e1], e2, e3⟩
  · have hm : (s.heap.objs.size == sysModules) = false := beq_eq_false_iff_ne.mpr (Nat.ne_of_gt I.big)
    have hlen : (mergeT [] kvs).length ≤ sizeLine := by
      have := mergeT_len kvs []
      rw [List.length_nil, Nat.zero_add] at this
      omega
    obtain ⟨o2, es, ep, ho2, hx2, hd2, he2, _, hn2⟩ := hd'
    have kt := KT_merge rel (.nil : KT H [] [])
    have hfr := I.hok.fresh (Nat.le_refl s.heap.objs.size)
    exact ⟨.ref s.heap.objs.size, upd H s.heap.objs.size (.dT (mergeT [] kvs)), I.laid (t' := tk) k (Nat.le_refl _) (show ObjOk X.prog X.w _ _ _ (.dT (mergeT [] kvs)) from ⟨hlen, hm, mergedH [] prs, kt.keeps (fun b ys e => by rw [upd_ne (ne_of_none e hfr)]; exact e), o2, es, ep, ho2, hx2, hd2, he2, hn2⟩), rfl, q _ hfr⟩
end
end Rs

/-! sum(t), t[a:b], t a tuple -/
namespace Rs
open PySem PySem.Spec PyProof.Rows L2
def rSumT (K : PySem.W.Frag) : List V → Hp → VK → Prop := fun vs H Q => ∃ (a : Addr) (ns : List Int), vs = [V.ref a] ∧ SqT K H a (ns.map V.int) ∧ Q (.int ns.sum) H
section
variable {X : Cx}
theorem cr_sumT (hc : X.calm = true) : CallR X (.builtin "sum") (rSumT X.K) := by
  intro pins s σ H vs us Q I r h
  obtain ⟨a, ns, rfl, hs, q⟩ := h
  obtain ⟨its, rv, ht, _⟩ := I.tuple hs
  rw [Vals.ref1 r]
  have hi := rv.ints
  obtain ⟨xs, hx⟩ := hi.allInts.items
  have hn : numsOf its.toArray.toList = ns := by rw [show its.toArray.toList = its from rfl, hi.numsOf]
  have ht : s.heap.IsTuple a its.toArray := ht
  rw [hx] at ht hn
  rw [nums_intItems] at hn
  refine PySem.W.ktm_sumG (I.ok.hd hc) ht fun h' tk t' hk => ?_
  rw [preSum_eq, List.take_of_length_le (by simp), hn]
  exact ⟨.int _, H, I.kept hk, ⟨_, rfl⟩, q⟩
end
/-- t[lo:hi]: a tuple of these -/
theorem slTA {K : PySem.W.Frag} {H : Hp} {Q : VK} {a : Addr} {xs : List V} {lo hi : Option Int} (h : H a = some (.tup xs)) (q : ∀ p H', H' p = some (.tup (cutV xs lo hi)) → Same H H' → Q (.ref p) H') : rSlA K (.ref a) lo hi H Q := by
  refine ⟨a, xs, rfl, SqT.of h, fun z => ?_, fun _ p hp => q p _ upd_same (Rs.Same.new hp)⟩
  refine q a H ?_ (Same.refl _)
  rw [h]
  unfold cutV
  rw [z.1, z.2, List.drop_zero, Nat.sub_zero, List.take_length]
end Rs

/-! further rules of our own -/
namespace Rs
open PySem PySem.Spec PyProof.Rows L2
/-! ### dict(pairs) -/
abbrev xDictP (K : PySem.W.Frag) : List V → Hp → VK → Prop := fun xs H Q => ∃ (a : Addr) (ps : List Addr) (kvs : List (Key × V)), xs = [.ref a] ∧ SqL K H a (ps.map V.ref) ∧ Paired (fun p kv => SqT K H p [kV kv.1, kv.2]) ps kvs ∧ ∀ p, H p = none → Q (.ref p) (upd H p (.dK (mergeK [] kvs)))
/-! ### l[i] += e -/
def rGetL (K : PySem.W.Frag) : V → V → Hp → VK → Prop := fun x y H Q => ∃ (a : Addr) (xs : List V) (j : Nat) (z : V), x = .ref a ∧ y = .int ((j : Nat) : Int) ∧ SqL K H a xs ∧ xs[j]? = some z ∧ Q z H
abbrev xIpAdd : TIp := ipI fun i j => i + j
abbrev tAugL (K : PySem.W.Frag) (to ti te : TE) : TS := tAugS to ti te (rGetL K) xIpAdd rSetL
section
variable {X : Cx}
theorem pg_list : PGet X (rGetL X.K) := by
  intro pins s σ H x y v u Q I rx ry h
  obtain ⟨p, xs, j, z, rfl, rfl, hq, he, q⟩ := h
  cases rx
  obtain ⟨t, rfl⟩ := ry
  obtain ⟨its, r, pl, hz⟩ := I.list hq
  obtain ⟨w, ew, rw'⟩ := r.get he
  have hl := r.length
  have hn := line63
  have hj := (List.getElem?_eq_some_iff.mp he).1
  exact wpAny_getItem_list pl.isList (by omega) (by omega) (by simpa using ew) ⟨z, H, I, rw', q⟩
theorem ps_augL {o i e : Expr} {to ti te : TE} {tpos pos : Pos} (ho : PE X o to) (hi : PE X i ti) (he : PE X e te)
    (ha : ∀ ov iv new, augStore i ov iv new = (do holding [new, ov, iv] (setItem ov iv new); release [new, ov, iv] []; pure .next) := by intros; rfl) : PS X (.AugAssign (.Subscript o i tpos) .Add e pos) (tAugL X.K to ti te) := ps_augS ho hi pg_list he ip_add set_list ha
end
end Rs

namespace Rs
open PySem PySem.Spec PyProof.Rows L2
/-! ### a tree of the least: best[k] is the lesser of best[2k] and best[2k+1] -/
abbrev Hds := List (Option Pr)
def hd (hs : Hds) (s : Nat) : Option Pr := (hs.getD s none)
def hdV (hs : Hds) (s : Nat) : Pr := (hd hs s).getD c0.2
def pick (o : Ord) (hs : Hds) : Option Nat → Option Nat → Option Nat
  | none, b => b
  | some i, none => some i
  | some i, some j => if before o (hdV hs i) (hdV hs j) then some i else some j
theorem pick_ss {o : Ord} {hs : Hds} {i j : Nat} : pick o hs (some i) (some j) = if before o (hdV hs i) (hdV hs j) then some i else some j := rfl
theorem pick_sn {o : Ord} {hs : Hds} {i : Nat} : pick o hs (some i) none = some i := rfl
theorem pick_n {o : Ord} {hs : Hds} {b : Option Nat} : pick o hs none b = b := rfl
def leafOf (hs : Hds) (s : Nat) : Option Nat := if (hd hs s).isSome then some s else none
def bst (bs : List (Option Nat)) (k : Nat) : Option Nat := bs.getD k none
/-- all knots from lo on but those on the way up from at_ are as they should be -/
structure TreeOk (o : Ord) (hs : Hds) (bs : List (Option Nat)) (many : Nat) (bad : Nat → Prop) : Prop where
  len : bs.length = 2 * many
  leaf : ∀ s, s < many → bst bs (many + s) = leafOf hs s
  knot : ∀ k, 1 ≤ k → k < many → ¬ bad k → bst bs k = pick o hs (bst bs (2 * k)) (bst bs (2 * k + 1))
/-- each that is told is one that has a head -/
theorem tree_some {o : Ord} {hs : Hds} {bs : List (Option Nat)} {many : Nat} (T : TreeOk o hs bs many fun _ => False) : ∀ (n k : Nat), n = 2 * many - k → 1 ≤ k → k < 2 * many → ∀ s, bst bs k = some s → (hd hs s).isSome = true ∧ s < many := by
  intro n
  induction n using Nat.strongRecOn with
  | ind n ih =>
    intro k e h1 h2 s hs_
    by_cases hk : k < many
    · have q := T.knot k h1 hk (fun z => z)
      rw [hs_] at q
      have c1 := ih (2 * many - 2 * k) (by omega) (2 * k) rfl (by omega) (by omega)
      have c2 := ih (2 * many - (2 * k + 1)) (by omega) (2 * k + 1) rfl (by omega) (by omega)
      cases h3 : bst bs (2 * k) with
      | none =>
        rw [h3] at q
        exact c2 s q.symm
      | some i =>
        cases h4 : bst bs (2 * k + 1) with
        | none =>
          rw [h3, h4] at q
          exact c1 s (by rw [h3]; exact q.symm)
        | some j =>
          rw [h3, h4] at q
          rw [pick_ss] at q
          split at q
          · exact c1 s (by rw [h3]; exact q.symm)
          · exact c2 s (by rw [h4]; exact q.symm)
    · have q := T.leaf (k - many) (by omega)
      rw [show many + (k - many) = k by omega, hs_] at q
      unfold leafOf at q
      split at q
      · rename_i h
        cases q
        exact ⟨h, by omega⟩
      · cases q
/-- nothing that has a head is ahead of what is told above it -/
theorem tree_up {ks : List Str} {o : Ord} (ho : ∀ t ∈ o, t.1 < ks.length) {hs : Hds} (hok : ∀ s p, hd hs s = some p → isRow ks p.2 = true) {bs : List (Option Nat)} {many : Nat} (T : TreeOk o hs bs many fun _ => False) {s : Nat} (hs_ : s < many) (hh : (hd hs s).isSome = true) :
    ∀ (d k : Nat), k = (many + s) / 2 ^ d → 1 ≤ k → ∃ t, bst bs k = some t ∧ before o (hdV hs s) (hdV hs t) = false
  | 0, k, e, _ => by
    rw [Nat.pow_zero, Nat.div_one] at e
    rw [e, T.leaf s hs_]
    unfold leafOf
    rw [if_pos hh]
    exact ⟨s, rfl, before_irrefl o _⟩
  | d + 1, k, e, h1 => by
    have e2 : k = ((many + s) / 2 ^ d) / 2 := by rw [e, Nat.pow_succ, Nat.div_div_eq_div_mul]
    obtain ⟨t, ht, hb⟩ := tree_up ho hok T hs_ hh d ((many + s) / 2 ^ d) rfl (by omega)
    have hkm : k < many := by
      have : (many + s) / 2 ^ d ≤ many + s := Nat.div_le_self _ _
      omega
    have val : ∀ j u, 1 ≤ j → j < 2 * many → bst bs j = some u → isRow ks (hdV hs u).2 = true := fun j u j1 j2 hu => by
      have := (tree_some T _ j rfl j1 j2 u hu).1
      unfold hdV
      cases hq : hd hs u with
      | none => rw [hq] at this; cases this
      | some p => exact hok u p hq
    have rs : isRow ks (hdV hs s).2 = true := by
      unfold hdV
      cases hq : hd hs s with
      | none => rw [hq] at hh; cases hh
      | some p => exact hok s p hq
    have q := T.knot k h1 hkm (fun z => z)
    have neg : ∀ a b c : Pr, isRow ks a.2 = true → isRow ks b.2 = true → isRow ks c.2 = true → before o b a = false → before o c b = false → before o c a = false := fun a b c ra rb rc n1 n2 => by
      cases hca : before o c a with
      | false => rfl
      | true =>
        rcases before_co o (cmp_of ho ra rb) (cmp_of ho rb rc) hca with z | z
        · rw [z] at n2; cases n2
        · rw [z] at n1; cases n1
    have k2 : (many + s) / 2 ^ d = 2 * k ∨ (many + s) / 2 ^ d = 2 * k + 1 := by omega
    rcases k2 with e3 | e3
    · rw [e3] at ht
      rw [ht] at q
      cases h4 : bst bs (2 * k + 1) with
      | none => rw [h4] at q; exact ⟨t, q, hb⟩
      | some j =>
        rw [h4] at q
        rw [pick_ss] at q
        split at q
        · exact ⟨t, q, hb⟩
        · rename_i hn
          refine ⟨j, q, neg _ _ _ (val (2 * k + 1) j (by omega) (by omega) h4) (val (2 * k) t (by omega) (by omega) ht) rs (by simpa using hn) hb⟩
    · rw [e3] at ht
      rw [ht] at q
      cases h4 : bst bs (2 * k) with
      | none => rw [h4] at q; exact ⟨t, q, hb⟩
      | some j =>
        rw [h4] at q
        rw [pick_ss] at q
        split at q
        · rename_i hy
          refine ⟨j, q, ?_⟩
          have rj := val (2 * k) j (by omega) (by omega) h4
          have rt := val (2 * k + 1) t (by omega) (by omega) ht
          cases hsj : before o (hdV hs s) (hdV hs j) with
          | false => rfl
          | true =>
            have := before_trans o (cmp_of ho rs rj) (cmp_of ho rj rt) hsj hy
            rw [hb] at this
            cases this
        · exact ⟨t, q, hb⟩
/-- what is told stands below -/
theorem tree_below {o : Ord} {hs : Hds} {bs : List (Option Nat)} {many : Nat} (T : TreeOk o hs bs many fun _ => False) : ∀ (n k : Nat), n = 2 * many - k → 1 ≤ k → k < 2 * many → ∀ s, bst bs k = some s → ∃ d, (many + s) / 2 ^ d = k := by
  intro n
  induction n using Nat.strongRecOn with
  | ind n ih =>
    intro k e h1 h2 s hs_
    by_cases hk : k < many
    · have q := T.knot k h1 hk (fun z => z)
      rw [hs_] at q
      have up : ∀ j, j / 2 = k → bst bs j = some s → 1 ≤ j → j < 2 * many → 2 * many - j < n → ∃ d, (many + s) / 2 ^ d = k := fun j ej hj j1 j2 jn => by
        obtain ⟨d, hd⟩ := ih (2 * many - j) jn j rfl j1 j2 s hj
        exact ⟨d + 1, by rw [Nat.pow_succ, ← Nat.div_div_eq_div_mul, hd, ej]⟩
      cases h3 : bst bs (2 * k) with
      | none =>
        rw [h3, pick_n] at q
        exact up (2 * k + 1) (by omega) q.symm (by omega) (by omega) (by omega)
      | some i =>
        cases h4 : bst bs (2 * k + 1) with
        | none =>
          rw [h3, h4, pick_sn] at q
          exact up (2 * k) (by omega) (by rw [h3, q]) (by omega) (by omega) (by omega)
        | some j =>
          rw [h3, h4, pick_ss] at q
          split at q
          · exact up (2 * k) (by omega) (by rw [h3, q]) (by omega) (by omega) (by omega)
          · exact up (2 * k + 1) (by omega) (by rw [h4, q]) (by omega) (by omega) (by omega)
    · have q := T.leaf (k - many) (by omega)
      rw [show many + (k - many) = k by omega, hs_] at q
      unfold leafOf at q
      split at q
      · cases q
        exact ⟨0, by rw [Nat.pow_zero, Nat.div_one]; omega⟩
      · cases q
/-- the knots above n -/
def Above (n k : Nat) : Prop := 1 ≤ k ∧ ∃ d, n / 2 ^ (d + 1) = k
theorem bst_set {bs : List (Option Nat)} {i k : Nat} {v : Option Nat} (h : i < bs.length) : bst (bs.set i v) k = if k = i then v else bst bs k := getD_set v h
theorem above_half {n k : Nat} : Above n k ↔ (k = n / 2 ∧ 1 ≤ k) ∨ Above (n / 2) k := by
  constructor
  · rintro ⟨h1, d, e⟩
    cases d with
    | zero => rw [Nat.pow_one] at e; exact .inl ⟨e.symm, h1⟩
    | succ d => exact .inr ⟨h1, d, by rw [← e, Nat.div_div_eq_div_mul, ← Nat.pow_succ']⟩
  · rintro (⟨e, h1⟩ | ⟨h1, d, e⟩)
    · exact ⟨h1, 0, by rw [Nat.pow_one]; exact e.symm⟩
    · exact ⟨h1, d + 1, by rw [← e, Nat.div_div_eq_div_mul, ← Nat.pow_succ']⟩
/-- one head is another now -/
theorem tree_leaf {o : Ord} {hs : Hds} {bs : List (Option Nat)} {many s : Nat} (T : TreeOk o hs bs many fun _ => False) (h1 : s < hs.length) (h2 : s < many) (h : Option Pr) :
    TreeOk o (hs.set s h) (bs.set (many + s) (if h.isSome then some s else none)) many (Above (many + s)) := by
  have hl : many + s < bs.length := by rw [T.len]; omega
  have hdS : ∀ t, hd (hs.set s h) t = if t = s then h else hd hs t := fun t => by
    unfold hd
    exact getD_set h h1
  refine ⟨by rw [List.length_set]; exact T.len, fun t ht => ?_, fun k k1 k2 nb => ?_⟩
  · rw [bst_set hl]
    unfold leafOf
    rw [hdS]
    by_cases e : t = s
    · subst e
      rw [if_pos rfl, if_pos rfl]
    · rw [if_neg (by omega), if_neg e]
      have := T.leaf t ht
      unfold leafOf at this
      exact this
  · have nk : ∀ j, j / 2 = k → 1 ≤ j → j < 2 * many → bst bs j ≠ some s ∧ j ≠ many + s := fun j ej j1 j2 => by
      refine ⟨fun z => nb ?_, fun z => nb ?_⟩
      · obtain ⟨d, hd⟩ := tree_below T _ j rfl j1 j2 s z
        exact ⟨k1, d, by rw [Nat.pow_succ, ← Nat.div_div_eq_div_mul, hd, ej]⟩
      · exact ⟨k1, 0, by rw [Nat.pow_one, ← z]; exact ej⟩
    obtain ⟨a1, a2⟩ := nk (2 * k) (by omega) (by omega) (by omega)
    obtain ⟨b1, b2⟩ := nk (2 * k + 1) (by omega) (by omega) (by omega)
    have a3 : bst (bs.set (many + s) (if h.isSome then some s else none)) (2 * k) = bst bs (2 * k) := by rw [bst_set hl, if_neg a2]
    have b3 : bst (bs.set (many + s) (if h.isSome then some s else none)) (2 * k + 1) = bst bs (2 * k + 1) := by rw [bst_set hl, if_neg b2]
    have c3 : bst (bs.set (many + s) (if h.isSome then some s else none)) k = bst bs k := by rw [bst_set hl, if_neg (by omega)]
    rw [a3, b3, c3, T.knot k k1 k2 (fun z => z)]
    have hv : ∀ i, i ≠ s → hdV (hs.set s h) i = hdV hs i := fun i hi => by
      unfold hdV
      rw [hdS, if_neg hi]
    cases h3 : bst bs (2 * k) with
    | none => rfl
    | some i =>
      cases h4 : bst bs (2 * k + 1) with
      | none => rfl
      | some j =>
        rw [pick_ss, pick_ss, hv i (fun z => a1 (by rw [h3, z])), hv j (fun z => b1 (by rw [h4, z]))]
/-- one knot told anew -/
theorem tree_knot {o : Ord} {hs : Hds} {bs : List (Option Nat)} {many n : Nat} (T : TreeOk o hs bs many (Above n)) (h1 : 1 ≤ n / 2) (h2 : n / 2 < many) :
    TreeOk o hs (bs.set (n / 2) (pick o hs (bst bs (2 * (n / 2))) (bst bs (2 * (n / 2) + 1)))) many (Above (n / 2)) := by
  have hl : n / 2 < bs.length := by rw [T.len]; omega
  refine ⟨by rw [List.length_set]; exact T.len, fun t ht => ?_, fun k k1 k2 nb => ?_⟩
  · rw [bst_set hl, if_neg (by omega)]
    exact T.leaf t ht
  · have ne : ∀ j, j / 2 = k → j ≠ n / 2 := fun j ej z => nb ⟨k1, 0, by rw [Nat.pow_one, ← z]; exact ej⟩
    rw [bst_set (k := 2 * k) hl, if_neg (ne _ (by omega)), bst_set (k := 2 * k + 1) hl, if_neg (ne _ (by omega)), bst_set hl]
    by_cases e : k = n / 2
    · subst e
      rw [if_pos rfl]
    · rw [if_neg e]
      refine T.knot k k1 k2 fun z => ?_
      rcases above_half.mp z with ⟨y, _⟩ | y
      · exact e y
      · exact nb y
theorem above_one {k : Nat} : ¬ Above 1 k := fun ⟨h, d, e⟩ => by
  have : 1 / 2 ^ (d + 1) = 0 := Nat.div_eq_of_lt (by rw [Nat.pow_succ]; have := Nat.one_le_two_pow (n := d); omega)
  omega
theorem TreeOk.imp {o : Ord} {hs : Hds} {bs : List (Option Nat)} {many : Nat} {p q : Nat → Prop} (T : TreeOk o hs bs many p) (h : ∀ k, p k → q k) : TreeOk o hs bs many q := ⟨T.len, T.leaf, fun k a b c => T.knot k a b fun z => c (h k z)⟩
/-- made knot by knot, from the last -/
theorem tree_down {o : Ord} {hs : Hds} {bs : List (Option Nat)} {many k : Nat} (T : TreeOk o hs bs many fun j => j ≤ k) (h1 : 1 ≤ k) (h2 : k < many) :
    TreeOk o hs (bs.set k (pick o hs (bst bs (2 * k)) (bst bs (2 * k + 1)))) many fun j => j ≤ k - 1 := by
  have hl : k < bs.length := by rw [T.len]; omega
  refine ⟨by rw [List.length_set]; exact T.len, fun t ht => ?_, fun j j1 j2 nb => ?_⟩
  · rw [bst_set hl, if_neg (by omega)]
    exact T.leaf t ht
  · rw [bst_set (k := 2 * j) hl, if_neg (by omega), bst_set (k := 2 * j + 1) hl, if_neg (by omega), bst_set hl]
    by_cases e : j = k
    · subst e
      rw [if_pos rfl]
    · rw [if_neg e]
      exact T.knot j j1 j2 (by omega)
/-- who is told at the top -/
theorem tree_top {ks : List Str} {o : Ord} (ho : ∀ t ∈ o, t.1 < ks.length) {hs : Hds} (hok : ∀ s p, hd hs s = some p → isRow ks p.2 = true) {bs : List (Option Nat)} {e : Nat} (T : TreeOk o hs bs (2 ^ e) fun _ => False) (hl : hs.length ≤ 2 ^ e) :
    (bst bs 1 = none → ∀ s, hd hs s = none) ∧ ∀ t, bst bs 1 = some t → ∃ p, hd hs t = some p ∧ ∀ s q, hd hs s = some q → before o q p = false := by
  have pos := Nat.one_le_two_pow (n := e)
  have up : ∀ s q, hd hs s = some q → ∃ t, bst bs 1 = some t ∧ before o q (hdV hs t) = false := fun s q hq => by
    have sl : s < hs.length := by
      by_cases c : s < hs.length
      · exact c
      · unfold hd at hq
        rw [List.getD_eq_getElem?_getD, List.getElem?_eq_none (by omega)] at hq
        cases hq
    have one : (2 ^ e + s) / 2 ^ e = 1 := by
      rw [Nat.add_div_left _ (by omega), Nat.div_eq_of_lt (by omega)]
    obtain ⟨t, a, b⟩ := tree_up ho hok T (s := s) (by omega) (by rw [hq]; rfl) e 1 one.symm (Nat.le_refl _)
    refine ⟨t, a, ?_⟩
    unfold hdV at b
    rw [hq] at b
    exact b
  refine ⟨fun h s => ?_, fun t h => ?_⟩
  · cases hq : hd hs s with
    | none => rfl
    | some q =>
      obtain ⟨t, a, _⟩ := up s q hq
      rw [h] at a
      cases a
  · obtain ⟨a, _⟩ := tree_some T _ 1 rfl (Nat.le_refl _) (by omega) t h
    cases hp : hd hs t with
    | none => rw [hp] at a; cases a
    | some p =>
      refine ⟨p, rfl, fun s q hq => ?_⟩
      obtain ⟨t', b1, b2⟩ := up s q hq
      rw [h] at b1
      cases b1
      unfold hdV at b2
      rw [hp] at b2
      exact b2
end Rs

namespace Rs
open PySem PySem.Spec PyProof.Rows L2
structure TxtTree (K : PySem.W.Frag) : Prop where
  cl : Cls K (He.ga K "Tree")
  n_order : NoAttr K (He.ga K "Tree") "order"
  n_heads : NoAttr K (He.ga K "Tree") "heads"
  n_many : NoAttr K (He.ga K "Tree") "many"
  n_looks : NoAttr K (He.ga K "Tree") "looks"
  n_best : NoAttr K (He.ga K "Tree") "best"
def f_Tree (x0 x1 x2 x3 x4 : V) : List (Str × V) := [(("order" : Str), x0), (("heads" : Str), x1), (("many" : Str), x2), (("looks" : Str), x3), (("best" : Str), x4)]
def TreeOb (K : PySem.W.Frag) (H : Hp) (p : Addr) (x0 x1 x2 x3 x4 : V) : Prop := ∃ dx, H p = some (.ins (He.ga K "Tree") dx (f_Tree x0 x1 x2 x3 x4))
section
variable {K : PySem.W.Frag} {x0 x1 x2 x3 x4 y : V} {H : Hp} {Q : VK} {p : Addr} {D : Ends} {σ : L2.St}
theorem fl_Tree_order : (f_Tree x0 x1 x2 x3 x4).lookup ("order" : Str) = some x0 := by
  unfold f_Tree
  rw [lk_hd]
theorem pf_Tree_order : putF "order" y (f_Tree x0 x1 x2 x3 x4) = f_Tree y x1 x2 x3 x4 := by
  unfold f_Tree
  rw [put_hd]
theorem g_Tree_order (T : TxtTree K) (h : TreeOb K H p x0 x1 x2 x3 x4) (q : Q x0 H) : rFld K "order" (.ref p) H Q := let ⟨dx, h⟩ := h; ⟨p, _, dx, _, _, rfl, h, T.cl, T.n_order, fl_Tree_order, q⟩
theorem s_Tree_order (T : TxtTree K) (h : TreeOb K H p x0 x1 x2 x3 x4) (q : ∀ dx, H p = some (.ins (He.ga K "Tree") dx (f_Tree x0 x1 x2 x3 x4)) → D.nx σ (upd H p (.ins (He.ga K "Tree") dx (f_Tree y x1 x2 x3 x4)))) : rSFl K "order" (.ref p) y D σ H := by
  obtain ⟨dx, h⟩ := h
  refine ⟨p, _, dx, _, rfl, h, T.cl, T.n_order, by show 5 < 1000; decide, ?_⟩
  rw [pf_Tree_order]
  exact q dx h
theorem fl_Tree_heads : (f_Tree x0 x1 x2 x3 x4).lookup ("heads" : Str) = some x1 := by
  unfold f_Tree
  rw [lk_tl (by decide +kernel), lk_hd]
theorem pf_Tree_heads : putF "heads" y (f_Tree x0 x1 x2 x3 x4) = f_Tree x0 y x2 x3 x4 := by
  unfold f_Tree
  rw [put_tl (by decide +kernel), put_hd]
theorem g_Tree_heads (T : TxtTree K) (h : TreeOb K H p x0 x1 x2 x3 x4) (q : Q x1 H) : rFld K "heads" (.ref p) H Q := let ⟨dx, h⟩ := h; ⟨p, _, dx, _, _, rfl, h, T.cl, T.n_heads, fl_Tree_heads, q⟩
theorem s_Tree_heads (T : TxtTree K) (h : TreeOb K H p x0 x1 x2 x3 x4) (q : ∀ dx, H p = some (.ins (He.ga K "Tree") dx (f_Tree x0 x1 x2 x3 x4)) → D.nx σ (upd H p (.ins (He.ga K "Tree") dx (f_Tree x0 y x2 x3 x4)))) : rSFl K "heads" (.ref p) y D σ H := by
  obtain ⟨dx, h⟩ := h
  refine ⟨p, _, dx, _, rfl, h, T.cl, T.n_heads, by show 5 < 1000; decide, ?_⟩
  rw [pf_Tree_heads]
  exact q dx h
theorem fl_Tree_many : (f_Tree x0 x1 x2 x3 x4).lookup ("many" : Str) = some x2 := by
  unfold f_Tree
  rw [lk_tl (by decide +kernel), lk_tl (by decide +kernel), lk_hd]
theorem pf_Tree_many : putF "many" y (f_Tree x0 x1 x2 x3 x4) = f_Tree x0 x1 y x3 x4 := by
  unfold f_Tree
  rw [put_tl (by decide +kernel), put_tl (by decide +kernel), put_hd]
theorem g_Tree_many (T : TxtTree K) (h : TreeOb K H p x0 x1 x2 x3 x4) (q : Q x2 H) : rFld K "many" (.ref p) H Q := let ⟨dx, h⟩ := h; ⟨p, _, dx, _, _, rfl, h, T.cl, T.n_many, fl_Tree_many, q⟩
theorem s_Tree_many (T : TxtTree K) (h : TreeOb K H p x0 x1 x2 x3 x4) (q : ∀ dx, H p = some (.ins (He.ga K "Tree") dx (f_Tree x0 x1 x2 x3 x4)) → D.nx σ (upd H p (.ins (He.ga K "Tree") dx (f_Tree x0 x1 y x3 x4)))) : rSFl K "many" (.ref p) y D σ H := by
  obtain ⟨dx, h⟩ := h
  refine ⟨p, _, dx, _, rfl, h, T.cl, T.n_many, by show 5 < 1000; decide, ?_⟩
  rw [pf_Tree_many]
  exact q dx h
theorem fl_Tree_looks : (f_Tree x0 x1 x2 x3 x4).lookup ("looks" : Str) = some x3 := by
  unfold f_Tree
  rw [lk_tl (by decide +kernel), lk_tl (by decide +kernel), lk_tl (by decide +kernel), lk_hd]
theorem pf_Tree_looks : putF "looks" y (f_Tree x0 x1 x2 x3 x4) = f_Tree x0 x1 x2 y x4 := by
  unfold f_Tree
  rw [put_tl (by decide +kernel), put_tl (by decide +kernel), put_tl (by decide +kernel), put_hd]
theorem g_Tree_looks (T : TxtTree K) (h : TreeOb K H p x0 x1 x2 x3 x4) (q : Q x3 H) : rFld K "looks" (.ref p) H Q := let ⟨dx, h⟩ := h; ⟨p, _, dx, _, _, rfl, h, T.cl, T.n_looks, fl_Tree_looks, q⟩
theorem s_Tree_looks (T : TxtTree K) (h : TreeOb K H p x0 x1 x2 x3 x4) (q : ∀ dx, H p = some (.ins (He.ga K "Tree") dx (f_Tree x0 x1 x2 x3 x4)) → D.nx σ (upd H p (.ins (He.ga K "Tree") dx (f_Tree x0 x1 x2 y x4)))) : rSFl K "looks" (.ref p) y D σ H := by
  obtain ⟨dx, h⟩ := h
  refine ⟨p, _, dx, _, rfl, h, T.cl, T.n_looks, by show 5 < 1000; decide, ?_⟩
  rw [pf_Tree_looks]
  exact q dx h
theorem fl_Tree_best : (f_Tree x0 x1 x2 x3 x4).lookup ("best" : Str) = some x4 := by
  unfold f_Tree
  rw [lk_tl (by decide +kernel), lk_tl (by decide +kernel), lk_tl (by decide +kernel), lk_tl (by decide +kernel), lk_hd]
theorem pf_Tree_best : putF "best" y (f_Tree x0 x1 x2 x3 x4) = f_Tree x0 x1 x2 x3 y := by
  unfold f_Tree
  rw [put_tl (by decide +kernel), put_tl (by decide +kernel), put_tl (by decide +kernel), put_tl (by decide +kernel), put_hd]
theorem g_Tree_best (T : TxtTree K) (h : TreeOb K H p x0 x1 x2 x3 x4) (q : Q x4 H) : rFld K "best" (.ref p) H Q := let ⟨dx, h⟩ := h; ⟨p, _, dx, _, _, rfl, h, T.cl, T.n_best, fl_Tree_best, q⟩
theorem s_Tree_best (T : TxtTree K) (h : TreeOb K H p x0 x1 x2 x3 x4) (q : ∀ dx, H p = some (.ins (He.ga K "Tree") dx (f_Tree x0 x1 x2 x3 x4)) → D.nx σ (upd H p (.ins (He.ga K "Tree") dx (f_Tree x0 x1 x2 x3 y)))) : rSFl K "best" (.ref p) y D σ H := by
  obtain ⟨dx, h⟩ := h
  refine ⟨p, _, dx, _, rfl, h, T.cl, T.n_best, by show 5 < 1000; decide, ?_⟩
  rw [pf_Tree_best]
  exact q dx h
theorem no_Tree_lesser : (f_Tree x0 x1 x2 x3 x4).lookup ("lesser" : Str) = none := by
  unfold f_Tree
  rw [lk_tl (by decide +kernel), lk_tl (by decide +kernel), lk_tl (by decide +kernel), lk_tl (by decide +kernel), lk_tl (by decide +kernel), lk_nil]
theorem no_Tree_first : (f_Tree x0 x1 x2 x3 x4).lookup ("first" : Str) = none := by
  unfold f_Tree
  rw [lk_tl (by decide +kernel), lk_tl (by decide +kernel), lk_tl (by decide +kernel), lk_tl (by decide +kernel), lk_tl (by decide +kernel), lk_nil]
theorem no_Tree_turn : (f_Tree x0 x1 x2 x3 x4).lookup ("turn" : Str) = none := by
  unfold f_Tree
  rw [lk_tl (by decide +kernel), lk_tl (by decide +kernel), lk_tl (by decide +kernel), lk_tl (by decide +kernel), lk_tl (by decide +kernel), lk_nil]
end
def i_Tree_0 : List (Str × V) := []
def i_Tree_1 (x0 : V) : List (Str × V) := [(("order" : Str), x0)]
def i_Tree_2 (x0 x1 : V) : List (Str × V) := [(("order" : Str), x0), (("heads" : Str), x1)]
def i_Tree_3 (x0 x1 x2 : V) : List (Str × V) := [(("order" : Str), x0), (("heads" : Str), x1), (("many" : Str), x2)]
def i_Tree_4 (x0 x1 x2 x3 : V) : List (Str × V) := [(("order" : Str), x0), (("heads" : Str), x1), (("many" : Str), x2), (("looks" : Str), x3)]
def i_Tree_5 (x0 x1 x2 x3 x4 : V) : List (Str × V) := [(("order" : Str), x0), (("heads" : Str), x1), (("many" : Str), x2), (("looks" : Str), x3), (("best" : Str), x4)]
section
variable {K : PySem.W.Frag} {x0 x1 x2 x3 x4 y : V} {H : Hp} {Q : VK} {p dx : Addr} {D : Ends} {σ : L2.St}
theorem n_Tree_order (T : TxtTree K) (h : H p = some (.ins (He.ga K "Tree") dx [])) (q : D.nx σ (upd H p (.ins (He.ga K "Tree") dx (i_Tree_1  y)))) : rSFl K "order" (.ref p) y D σ H := by
  refine ⟨p, _, dx, _, rfl, h, T.cl, T.n_order, by show 0 < 1000; decide, ?_⟩
  have e : putF "order" y [] = i_Tree_1  y := by
    rw [put_nil] <;> rfl
  rw [e]
  exact q
theorem n_Tree_heads (T : TxtTree K) (h : H p = some (.ins (He.ga K "Tree") dx (i_Tree_1 x0))) (q : D.nx σ (upd H p (.ins (He.ga K "Tree") dx (i_Tree_2 x0 y)))) : rSFl K "heads" (.ref p) y D σ H := by
  refine ⟨p, _, dx, _, rfl, h, T.cl, T.n_heads, by show 1 < 1000; decide, ?_⟩
  have e : putF "heads" y (i_Tree_1 x0) = i_Tree_2 x0 y := by
    unfold i_Tree_1
    rw [put_tl (by decide +kernel), put_nil] <;> rfl
  rw [e]
  exact q
theorem n_Tree_many (T : TxtTree K) (h : H p = some (.ins (He.ga K "Tree") dx (i_Tree_2 x0 x1))) (q : D.nx σ (upd H p (.ins (He.ga K "Tree") dx (i_Tree_3 x0 x1 y)))) : rSFl K "many" (.ref p) y D σ H := by
  refine ⟨p, _, dx, _, rfl, h, T.cl, T.n_many, by show 2 < 1000; decide, ?_⟩
  have e : putF "many" y (i_Tree_2 x0 x1) = i_Tree_3 x0 x1 y := by
    unfold i_Tree_2
    rw [put_tl (by decide +kernel), put_tl (by decide +kernel), put_nil] <;> rfl
  rw [e]
  exact q
theorem n_Tree_looks (T : TxtTree K) (h : H p = some (.ins (He.ga K "Tree") dx (i_Tree_3 x0 x1 x2))) (q : D.nx σ (upd H p (.ins (He.ga K "Tree") dx (i_Tree_4 x0 x1 x2 y)))) : rSFl K "looks" (.ref p) y D σ H := by
  refine ⟨p, _, dx, _, rfl, h, T.cl, T.n_looks, by show 3 < 1000; decide, ?_⟩
  have e : putF "looks" y (i_Tree_3 x0 x1 x2) = i_Tree_4 x0 x1 x2 y := by
    unfold i_Tree_3
    rw [put_tl (by decide +kernel), put_tl (by decide +kernel), put_tl (by decide +kernel), put_nil] <;> rfl
  rw [e]
  exact q
theorem n_Tree_best (T : TxtTree K) (h : H p = some (.ins (He.ga K "Tree") dx (i_Tree_4 x0 x1 x2 x3))) (q : D.nx σ (upd H p (.ins (He.ga K "Tree") dx (i_Tree_5 x0 x1 x2 x3 y)))) : rSFl K "best" (.ref p) y D σ H := by
  refine ⟨p, _, dx, _, rfl, h, T.cl, T.n_best, by show 4 < 1000; decide, ?_⟩
  have e : putF "best" y (i_Tree_4 x0 x1 x2 x3) = i_Tree_5 x0 x1 x2 x3 y := by
    unfold i_Tree_4
    rw [put_tl (by decide +kernel), put_tl (by decide +kernel), put_tl (by decide +kernel), put_tl (by decide +kernel), put_nil] <;> rfl
  rw [e]
  exact q
theorem gi_Tree_4_order (T : TxtTree K) (h : H p = some (.ins (He.ga K "Tree") dx (i_Tree_4 x0 x1 x2 x3))) (q : Q x0 H) : rFld K "order" (.ref p) H Q := by
  refine ⟨p, _, dx, _, _, rfl, h, T.cl, T.n_order, ?_, q⟩
  unfold i_Tree_4
  rw [lk_hd]
theorem si_Tree_4_order (T : TxtTree K) (h : H p = some (.ins (He.ga K "Tree") dx (i_Tree_4 x0 x1 x2 x3))) (q : D.nx σ (upd H p (.ins (He.ga K "Tree") dx (i_Tree_4 y x1 x2 x3)))) : rSFl K "order" (.ref p) y D σ H := by
  refine ⟨p, _, dx, _, rfl, h, T.cl, T.n_order, by show 4 < 1000; decide, ?_⟩
  have e : putF "order" y (i_Tree_4 x0 x1 x2 x3) = i_Tree_4 y x1 x2 x3 := by
    unfold i_Tree_4
    rw [put_hd]
  rw [e]
  exact q
theorem gi_Tree_4_heads (T : TxtTree K) (h : H p = some (.ins (He.ga K "Tree") dx (i_Tree_4 x0 x1 x2 x3))) (q : Q x1 H) : rFld K "heads" (.ref p) H Q := by
  refine ⟨p, _, dx, _, _, rfl, h, T.cl, T.n_heads, ?_, q⟩
  unfold i_Tree_4
  rw [lk_tl (by decide +kernel), lk_hd]
theorem si_Tree_4_heads (T : TxtTree K) (h : H p = some (.ins (He.ga K "Tree") dx (i_Tree_4 x0 x1 x2 x3))) (q : D.nx σ (upd H p (.ins (He.ga K "Tree") dx (i_Tree_4 x0 y x2 x3)))) : rSFl K "heads" (.ref p) y D σ H := by
  refine ⟨p, _, dx, _, rfl, h, T.cl, T.n_heads, by show 4 < 1000; decide, ?_⟩
  have e : putF "heads" y (i_Tree_4 x0 x1 x2 x3) = i_Tree_4 x0 y x2 x3 := by
    unfold i_Tree_4
    rw [put_tl (by decide +kernel), put_hd]
  rw [e]
  exact q
theorem gi_Tree_4_many (T : TxtTree K) (h : H p = some (.ins (He.ga K "Tree") dx (i_Tree_4 x0 x1 x2 x3))) (q : Q x2 H) : rFld K "many" (.ref p) H Q := by
  refine ⟨p, _, dx, _, _, rfl, h, T.cl, T.n_many, ?_, q⟩
  unfold i_Tree_4
  rw [lk_tl (by decide +kernel), lk_tl (by decide +kernel), lk_hd]
theorem si_Tree_4_many (T : TxtTree K) (h : H p = some (.ins (He.ga K "Tree") dx (i_Tree_4 x0 x1 x2 x3))) (q : D.nx σ (upd H p (.ins (He.ga K "Tree") dx (i_Tree_4 x0 x1 y x3)))) : rSFl K "many" (.ref p) y D σ H := by
  refine ⟨p, _, dx, _, rfl, h, T.cl, T.n_many, by show 4 < 1000; decide, ?_⟩
  have e : putF "many" y (i_Tree_4 x0 x1 x2 x3) = i_Tree_4 x0 x1 y x3 := by
    unfold i_Tree_4
    rw [put_tl (by decide +kernel), put_tl (by decide +kernel), put_hd]
  rw [e]
  exact q
theorem gi_Tree_4_looks (T : TxtTree K) (h : H p = some (.ins (He.ga K "Tree") dx (i_Tree_4 x0 x1 x2 x3))) (q : Q x3 H) : rFld K "looks" (.ref p) H Q := by
  refine ⟨p, _, dx, _, _, rfl, h, T.cl, T.n_looks, ?_, q⟩
  unfold i_Tree_4
  rw [lk_tl (by decide +kernel), lk_tl (by decide +kernel), lk_tl (by decide +kernel), lk_hd]
theorem si_Tree_4_looks (T : TxtTree K) (h : H p = some (.ins (He.ga K "Tree") dx (i_Tree_4 x0 x1 x2 x3))) (q : D.nx σ (upd H p (.ins (He.ga K "Tree") dx (i_Tree_4 x0 x1 x2 y)))) : rSFl K "looks" (.ref p) y D σ H := by
  refine ⟨p, _, dx, _, rfl, h, T.cl, T.n_looks, by show 4 < 1000; decide, ?_⟩
  have e : putF "looks" y (i_Tree_4 x0 x1 x2 x3) = i_Tree_4 x0 x1 x2 y := by
    unfold i_Tree_4
    rw [put_tl (by decide +kernel), put_tl (by decide +kernel), put_tl (by decide +kernel), put_hd]
  rw [e]
  exact q
end
/-! ### a tree as it stands -/
theorem But.tupOf {S : List Addr} {H H' : Hp} (k : But S H H') (h : ∀ b ∈ S, ∀ xs, H b ≠ some (.tup xs)) : TupLe H H' := fun c xs e => k c _ e (fun hm => h c hm xs e)
theorem nt_lst {H : Hp} {b : Addr} {vs : List V} (h : H b = some (.lst vs)) : ∀ xs, H b ≠ some (.tup xs) := fun xs e => by rw [h] at e; cases e
theorem nt_ins {H : Hp} {b C dx : Addr} {fs : List (Str × V)} (h : H b = some (.ins C dx fs)) : ∀ xs, H b ≠ some (.tup xs) := fun xs e => by rw [h] at e; cases e
theorem all3 {P : Addr → Prop} {a b c : Addr} (h1 : P a) (h2 : P b) (h3 : P c) : ∀ x ∈ [a, b, c], P x := fun x hx => by
  simp only [List.mem_cons, List.not_mem_nil, or_false] at hx
  rcases hx with rfl | rfl | rfl <;> assumption
theorem ne3 {a b c d : Addr} (h1 : a ≠ b) (h2 : a ≠ c) (h3 : a ≠ d) : a ∉ [b, c, d] := fun hm => by
  simp only [List.mem_cons, List.not_mem_nil, or_false] at hm
  rcases hm with h | h | h
  · exact h1 h
  · exact h2 h
  · exact h3 h
def NatAt : Rel (Option Nat) := fun _ v q => match q with
  | none => v = .non
  | some n => v = .int ((n : Nat) : Int)
theorem NatAt.st : Stable NatAt := fun _ _ _ _ _ h => h
structure TreeS (K : PySem.W.Frag) (H : Hp) (p lo lh lb : Addr) (o : Ord) (hs : Hds) (bs : List (Option Nat)) (many : Nat) (looks : Int) : Prop where
  ob : TreeOb K H p (.ref lo) (.ref lh) (.int (many : Int)) (.int looks) (.ref lb)
  ord : Lst TurnAt H lo o
  heads : Lst OptAt H lh hs
  best : Lst NatAt H lb bs
  nhb : lh ≠ lb
  noh : lo ≠ lh
  nob : lo ≠ lb
theorem TreeOb.keep {K : PySem.W.Frag} {H H' : Hp} {p : Addr} {x0 x1 x2 x3 x4 : V} (h : TreeOb K H p x0 x1 x2 x3 x4) (k : ∀ o, H p = some o → H' p = some o) : TreeOb K H' p x0 x1 x2 x3 x4 := let ⟨dx, e⟩ := h; ⟨dx, k _ e⟩
section
variable {K : PySem.W.Frag} {H H' : Hp} {p lo lh lb : Addr} {o : Ord} {hs hs' : Hds} {bs bs' : List (Option Nat)} {many : Nat} {looks looks' : Int} {vs : List V}
theorem TreeS.pne (T : TreeS K H p lo lh lb o hs bs many looks) : p ≠ lo ∧ p ≠ lh ∧ p ≠ lb := by
  obtain ⟨dx, e⟩ := T.ob
  obtain ⟨_, e1, _⟩ := T.ord
  obtain ⟨_, e2, _⟩ := T.heads
  obtain ⟨_, e3, _⟩ := T.best
  exact ⟨ne_of e e1 (by intro z; cases z), ne_of e e2 (by intro z; cases z), ne_of e e3 (by intro z; cases z)⟩
theorem TreeS.tup (T : TreeS K H p lo lh lb o hs bs many looks) (k : But [p, lh, lb] H H') : TupLe H H' := by
  obtain ⟨dx, e⟩ := T.ob
  obtain ⟨_, e2, _⟩ := T.heads
  obtain ⟨_, e3, _⟩ := T.best
  exact k.tupOf (all3 (nt_ins e) (nt_lst e2) (nt_lst e3))
theorem TreeS.keep (T : TreeS K H p lo lh lb o hs bs many looks) (t : TupLe H H') (k : ∀ b, b = p ∨ b = lo ∨ b = lh ∨ b = lb → ∀ u, H b = some u → H' b = some u) : TreeS K H' p lo lh lb o hs bs many looks :=
  ⟨T.ob.keep (k _ (.inl rfl)), T.ord.keep TurnAt.st t (k _ (.inr (.inl rfl))), T.heads.keep OptAt.st t (k _ (.inr (.inr (.inl rfl)))), T.best.keep NatAt.st t (k _ (.inr (.inr (.inr rfl)))), T.nhb, T.noh, T.nob⟩
theorem TreeS.same (T : TreeS K H p lo lh lb o hs bs many looks) (s : Same H H') : TreeS K H' p lo lh lb o hs bs many looks := T.keep (TupLe.same s) fun b _ u => s b u
theorem TreeS.looked {dx : Addr} (T : TreeS K H p lo lh lb o hs bs many looks) : TreeS K (upd H p (.ins (He.ga K "Tree") dx (f_Tree (.ref lo) (.ref lh) (.int (many : Int)) (.int looks') (.ref lb)))) p lo lh lb o hs bs many looks' ∧ But [p] H (upd H p (.ins (He.ga K "Tree") dx (f_Tree (.ref lo) (.ref lh) (.int (many : Int)) (.int looks') (.ref lb)))) := by
  obtain ⟨n1, n2, n3⟩ := T.pne
  have k : But [p] H (upd H p (.ins (He.ga K "Tree") dx (f_Tree (.ref lo) (.ref lh) (.int (many : Int)) (.int looks') (.ref lb)))) := (But.refl _ H).put (by simp)
  have t := T.tup (k.wide fun x hx => by rw [List.mem_singleton] at hx; subst hx; simp)
  exact ⟨⟨⟨dx, upd_same⟩, T.ord.keep TurnAt.st t fun u e => up e n1.symm, T.heads.keep OptAt.st t fun u e => up e n2.symm, T.best.keep NatAt.st t fun u e => up e n3.symm, T.nhb, T.noh, T.nob⟩, k⟩
theorem TreeS.bested (T : TreeS K H p lo lh lb o hs bs many looks) (q : Paired (NatAt (upd H lb (.lst vs))) vs bs') : TreeS K (upd H lb (.lst vs)) p lo lh lb o hs bs' many looks ∧ But [lb] H (upd H lb (.lst vs)) := by
  obtain ⟨n1, n2, n3⟩ := T.pne
  have k : But [lb] H (upd H lb (.lst vs)) := (But.refl _ H).put (by simp)
  have t := T.tup (k.wide fun x hx => by rw [List.mem_singleton] at hx; subst hx; simp)
  exact ⟨⟨T.ob.keep fun u e => up e n3, T.ord.keep TurnAt.st t fun u e => up e T.nob, T.heads.keep OptAt.st t fun u e => up e T.nhb, ⟨vs, upd_same, q⟩, T.nhb, T.noh, T.nob⟩, k⟩
theorem TreeS.headed (T : TreeS K H p lo lh lb o hs bs many looks) (q : Paired (OptAt H) vs hs') : TreeS K (upd H lh (.lst vs)) p lo lh lb o hs' bs many looks ∧ But [lh] H (upd H lh (.lst vs)) := by
  obtain ⟨n1, n2, n3⟩ := T.pne
  have k : But [lh] H (upd H lh (.lst vs)) := (But.refl _ H).put (by simp)
  have t := T.tup (k.wide fun x hx => by rw [List.mem_singleton] at hx; subst hx; simp)
  exact ⟨⟨T.ob.keep fun u e => up e n2, T.ord.keep TurnAt.st t fun u e => up e T.noh, ⟨vs, upd_same, Paired.tl OptAt.st t q⟩, T.best.keep NatAt.st t fun u e => up e T.nhb.symm, T.nhb, T.noh, T.nob⟩, k⟩
end
theorem opt_some {H : Hp} {v : V} {q : Pr} (h : OptAt H v (some q)) : decide (v = V.non) = false := by
  obtain ⟨w, ⟨a, rfl, _⟩, _⟩ := (show PairAt H v q from h)
  rfl
/-- what is told of two sources costs a look if both have some -/
def lk : Option Nat → Option Nat → Int
  | some _, some _ => 1
  | _, _ => 0
/-- each that is told, below a knot that is done, is one that has a head -/
theorem tree_some' {o : Ord} {hs : Hds} {bs : List (Option Nat)} {many : Nat} {bad : Nat → Prop} (T : TreeOk o hs bs many bad) (cl : ∀ k j, 1 ≤ k → j / 2 = k → bad j → bad k) : ∀ (n k : Nat), n = 2 * many - k → 1 ≤ k → k < 2 * many → ¬ bad k → ∀ s, bst bs k = some s → (hd hs s).isSome = true ∧ s < many := by
  intro n
  induction n using Nat.strongRecOn with
  | ind n ih =>
    intro k e h1 h2 nb s hs_
    by_cases hk : k < many
    · have q := T.knot k h1 hk nb
      rw [hs_] at q
      have c1 := ih (2 * many - 2 * k) (by omega) (2 * k) rfl (by omega) (by omega) (fun z => nb (cl k _ h1 (by omega) z))
      have c2 := ih (2 * many - (2 * k + 1)) (by omega) (2 * k + 1) rfl (by omega) (by omega) (fun z => nb (cl k _ h1 (by omega) z))
      cases h3 : bst bs (2 * k) with
      | none =>
        rw [h3] at q
        exact c2 s q.symm
      | some i =>
        cases h4 : bst bs (2 * k + 1) with
        | none =>
          rw [h3, h4] at q
          exact c1 s (by rw [h3]; exact q.symm)
        | some j =>
          rw [h3, h4] at q
          rw [pick_ss] at q
          split at q
          · exact c1 s (by rw [h3]; exact q.symm)
          · exact c2 s (by rw [h4]; exact q.symm)
    · have q := T.leaf (k - many) (by omega)
      rw [show many + (k - many) = k by omega, hs_] at q
      unfold leafOf at q
      split at q
      · rename_i h
        cases q
        exact ⟨h, by omega⟩
      · cases q
theorem above_up {n : Nat} : ∀ k j, 1 ≤ k → j / 2 = k → Above n j → Above n k := fun k j h1 e ⟨_, d, hd⟩ => ⟨h1, d + 1, by rw [Nat.pow_succ, ← Nat.div_div_eq_div_mul, hd, e]⟩
theorem above_self {n : Nat} (h : 1 ≤ n) : ¬ Above n n := fun ⟨_, d, e⟩ => by
  have : n / 2 ^ (d + 1) < n := Nat.div_lt_self (by omega) (by rw [Nat.pow_succ]; have := Nat.one_le_two_pow (n := d); omega)
  omega
/-- neither of the knots below the one above n lies above n -/
theorem above_kids {n j : Nat} (h1 : 1 ≤ j) (h : j / 2 = n / 2) : ¬ Above n j := fun ⟨_, d, e⟩ => by
  have : n / 2 ^ (d + 1) ≤ n / 2 := Nat.div_le_div_left (by rw [Nat.pow_succ]; have := Nat.one_le_two_pow (n := d); omega) (by omega)
  omega
abbrev N_Tree_lesser : List Str := ["self", "one", "other"]
abbrev P_Tree_lesser : List Str := ["self", "one", "other"]
def HdOk (ks : List Str) (hs : Hds) (a : Option Nat) : Prop := ∀ i, a = some i → ∃ q, hs[i]? = some (some q) ∧ isRow ks q.2 = true
theorem HdOk.of {ks : List Str} {hs : Hds} {a : Option Nat} (hok : ∀ s p, hd hs s = some p → isRow ks p.2 = true) (h : ∀ s, a = some s → (hd hs s).isSome = true) : HdOk ks hs a := fun i hi => by
  have := h i hi
  cases hq : hd hs i with
  | none => rw [hq] at this; cases this
  | some q =>
    refine ⟨q, ?_, hok i q hq⟩
    unfold hd at hq
    rw [List.getD_eq_getElem?_getD] at hq
    cases e : hs[i]? with
    | none => rw [e] at hq; cases hq
    | some z => rw [e] at hq; rw [← hq]; rfl
def sp_Tree_lesser (K : PySem.W.Frag) : Sp := fun vs H Q E => match vs with
  | [s, av, bv] => ∃ p lo lh lb o hs bs many looks ks a b, s = .ref p ∧ NatAt H av a ∧ NatAt H bv b ∧ TreeS K H p lo lh lb o hs bs many looks ∧ (∀ t ∈ o, t.1 < ks.length) ∧ HdOk ks hs a ∧ HdOk ks hs b ∧
    ∀ v H', NatAt H' v (pick o hs a b) → TreeS K H' p lo lh lb o hs bs many (looks + lk a b) → But [p] H H' → Q v H'
  | _ => False
def t_Tree_lesser (K : PySem.W.Frag) (E : XK) : TS := (tSeq (tIfS (tOr (tTest (tOpC rIsN (tVar 1) .non)) (tTest (tOpC rIsN (tVar 2) .non))) (tRet (tIf (tTest (tOpC rIsN (tVar 1) .non)) (tVar 2) (tVar 1))) tNext)
  (tSeq (sFl K (tVar 0) (tOpC xAdd (tFl K (tVar 0) "looks") (.int 1)) "looks")
   (tRet (tIf (tB (tCall (sp_is_before K) [] E (tCons (tFl K (tVar 0) "order") (tCons (tOp (rIxL K) (tFl K (tVar 0) "heads") (tVar 1)) (tCons (tOp (rIxL K) (tFl K (tVar 0) "heads") (tVar 2)) tNil))))) (tVar 1) (tVar 2)))))
theorem pure_Tree_lesser {K : PySem.W.Frag} (T : TxtTree K) : ∀ vs H Q E, sp_Tree_lesser K vs H Q E → t_Tree_lesser K E { nx := fun _ H' => Q .non H', rt := Q } (start N_Tree_lesser vs) H := by
  intro vs H Q E h
  match vs, h with
  | [s, av, bv], h =>
    obtain ⟨p, lo, lh, lb, o, hs, bs, many, looks, ks, a, b, rfl, ha, hb, S, hcol, oka, okb, k⟩ := h
    cases a with
    | none =>
      have ha : av = .non := ha
      subst ha
      exact ⟨_, rfl, rfl, _, rfl, _, rfl, rfl, _, rfl, _, rfl, k _ _ hb (by show TreeS K H p lo lh lb o hs bs many (looks + 0); rw [Int.add_zero]; exact S) (But.refl _ H)⟩
    | some i =>
      have ha : av = .int ((i : Nat) : Int) := ha
      subst ha
      cases b with
      | none =>
        have hb : bv = .non := hb
        subst hb
        exact ⟨_, rfl, rfl, _, rfl, _, rfl, rfl, _, rfl, _, rfl, rfl, _, rfl, _, rfl, k _ _ rfl (by show TreeS K H p lo lh lb o hs bs many (looks + 0); rw [Int.add_zero]; exact S) (But.refl _ H)⟩
      | some j =>
        have hb : bv = .int ((j : Nat) : Int) := hb
        subst hb
        refine ⟨_, rfl, rfl, _, rfl, _, rfl, rfl, _, rfl, ?_⟩
        refine ⟨_, rfl, g_Tree_looks T S.ob ⟨_, _, rfl, rfl, _, rfl, s_Tree_looks T S.ob fun dx hp => ?_⟩⟩
        obtain ⟨S1, k1⟩ := S.looked (dx := dx) (looks' := looks + 1)
        obtain ⟨qi, ei, ri⟩ := oka i rfl
        obtain ⟨qj, ej, rj⟩ := okb j rfl
        obtain ⟨hv, eh, ph⟩ := S1.heads
        obtain ⟨vi, gi, ai⟩ := P2.get' ph ei
        obtain ⟨vj, gj, aj⟩ := P2.get' ph ej
        refine ⟨_, rfl, g_Tree_order T S1.ob ⟨_, rfl, g_Tree_heads T S1.ob ⟨_, rfl, ixL eh rfl gi ⟨_, rfl, g_Tree_heads T S1.ob ⟨_, rfl, ixL eh rfl gj ?_⟩⟩⟩⟩⟩
        refine ⟨o, qi, qj, ⟨lo, rfl, S1.ord⟩, ai, aj, cmp_of hcol ri rj, _, rfl, ?_⟩
        have e1 : hdV hs i = qi := by unfold hdV hd; rw [List.getD_eq_getElem?_getD, ei]; rfl
        have e2 : hdV hs j = qj := by unfold hdV hd; rw [List.getD_eq_getElem?_getD, ej]; rfl
        rw [pick_ss, e1, e2] at k
        cases hbf : before o qi qj with
        | true => exact ⟨_, rfl, k _ _ (by rw [hbf]; rfl) S1 k1⟩
        | false => exact ⟨_, rfl, k _ _ (by rw [hbf]; rfl) S1 k1⟩
abbrev N_Tree_first : List Str := ["self"]
abbrev P_Tree_first : List Str := ["self"]
def sp_Tree_first (K : PySem.W.Frag) : Sp := fun vs H Q E => match vs with
  | [s] => ∃ p lo lh lb o hs bs many looks, s = .ref p ∧ TreeS K H p lo lh lb o hs bs many looks ∧ bs.length = 2 * many ∧ 1 ≤ many ∧ ∀ v, NatAt H v (bst bs 1) → Q v H
  | _ => False
def t_Tree_first (K : PySem.W.Frag) (E : XK) : TS := (tRet (tIf (tTest (tOpC xGt (tFl K (tVar 0) "many") (.int 1))) (tOpC (rIxL K) (tFl K (tVar 0) "best") (.int 1)) (tOpC (rIxL K) (tFl K (tVar 0) "best") (.int (-1)))))
theorem pure_Tree_first {K : PySem.W.Frag} (T : TxtTree K) : ∀ vs H Q E, sp_Tree_first K vs H Q E → t_Tree_first K E { nx := fun _ H' => Q .non H', rt := Q } (start N_Tree_first vs) H := by
  intro vs H Q E h
  match vs, h with
  | [s], h =>
    obtain ⟨p, lo, lh, lb, o, hs, bs, many, looks, rfl, S, hl, h1, k⟩ := h
    obtain ⟨bv, eb, pb⟩ := S.best
    have lb_ := pb.length
    have hx : bs[1]? = some (bst bs 1) := by
      unfold bst
      rw [List.getD_eq_getElem?_getD, List.getElem?_eq_getElem (by omega)]
      rfl
    obtain ⟨v, hv, av⟩ := P2.get' pb hx
    refine ⟨_, rfl, g_Tree_many T S.ob ⟨_, _, rfl, rfl, _, rfl, ?_⟩⟩
    by_cases hm : (1 : Int) < (many : Int)
    · rw [decide_eq_true hm]
      exact ⟨_, rfl, g_Tree_best T S.ob (ixL eb (j := 1) rfl hv (k v av))⟩
    · rw [decide_eq_false hm]
      refine ⟨_, rfl, g_Tree_best T S.ob ?_⟩
      match bv, lb_, hv with
      | [v0, v1], _, hv =>
        have e : v1 = v := by simpa using hv
        subst e
        exact ixLast (xs := [v0]) eb (k v1 av)
      | [], lb_, _ => simp at lb_; omega
      | [_], lb_, _ => simp at lb_; omega
      | _ :: _ :: _ :: _, lb_, _ => simp at lb_; omega
abbrev N_Tree_turn : List Str := ["self", "source", "head", "knot"]
abbrev P_Tree_turn : List Str := ["self", "source", "head"]
def sp_Tree_turn (K : PySem.W.Frag) : Sp := fun vs H Q E => match vs with
  | [s, iv, hv] => ∃ (p lo lh lb : Addr) (o : Ord) (hs : Hds) (bs : List (Option Nat)) (e : Nat) (looks : Int) (ks : List Str) (i : Nat) (h : Option Pr), s = .ref p ∧ iv = .int ((i : Nat) : Int) ∧ OptAt H hv h ∧ TreeS K H p lo lh lb o hs bs (2 ^ e) looks ∧ TreeOk o hs bs (2 ^ e) (fun _ => False) ∧ (∀ t ∈ o, t.1 < ks.length) ∧
    (∀ s q, hd hs s = some q → isRow ks q.2 = true) ∧ (∀ q, h = some q → isRow ks q.2 = true) ∧ i < hs.length ∧ hs.length ≤ 2 ^ e ∧
    ∀ bs' looks' H', TreeS K H' p lo lh lb o (hs.set i h) bs' (2 ^ e) looks' → TreeOk o (hs.set i h) bs' (2 ^ e) (fun _ => False) → looks ≤ looks' → looks' ≤ looks + (e : Int) → But [p, lh, lb] H H' → Q .non H'
  | _ => False
def t_Tree_turn (K : PySem.W.Frag) (E : XK) : TS := (tSeq (tAsg (tVar 2) (gSub (tFl K (tVar 0) "heads") (tVar 1) rSetL))
  (tSeq (tAsg (tOp xAdd (tFl K (tVar 0) "many") (tVar 1)) (gName 3))
   (tSeq (tAsg (tIf (tTest (tOpC rNotN (tVar 2) .non)) (tVar 1) (tC .non)) (gSub (tFl K (tVar 0) "best") (tVar 3) rSetL))
    (tWhile (tTest (tOpC xGt (tVar 3) (.int 1))) 
       (tSeq (tAsg (tOpC xDiv (tVar 3) (.int 2)) (gName 3))
       (tAsg (tMeth (He.ga K "Tree") "lesser" (sp_Tree_lesser K) [] E (tVar 0) (tCons (tOp (rIxL K) (tFl K (tVar 0) "best") (tOpD xMul (.int 2) (tVar 3))) (tCons (tOp (rIxL K) (tFl K (tVar 0) "best") (tOpC xAdd (tOpD xMul (.int 2) (tVar 3)) (.int 1))) tNil))) (gSub (tFl K (tVar 0) "best") (tVar 3) rSetL)))))))
theorem nat_opt {H : Hp} {v : V} {i : Nat} {h : Option Pr} (hv : OptAt H v h) : (if (!decide (v = V.non)) = true then V.int ((i : Nat) : Int) else V.non) = (match h with | none => V.non | some _ => V.int ((i : Nat) : Int)) := by
  cases h with
  | none =>
    have e : v = .non := hv
    subst e
    rfl
  | some q => rw [opt_some hv]; rfl
theorem pure_Tree_turn {K : PySem.W.Frag} (T : TxtTree K) : ∀ vs H Q E, sp_Tree_turn K vs H Q E → t_Tree_turn K E { nx := fun _ H' => Q .non H', rt := Q } (start N_Tree_turn vs) H := by
  intro vs H Q E h
  match vs, h with
  | [s, iv, hv], h =>
    obtain ⟨p, lo, lh, lb, o, hs, bs, e, looks, ks, i, h, rfl, rfl, ah, S, TO, hcol, hok, hrow, hi, hle, k⟩ := h
    obtain ⟨xv, ex, px⟩ := S.heads
    have lx := px.length
    refine ⟨_, rfl, _, rfl, g_Tree_heads T S.ob ⟨_, rfl, _, _, _, i, rfl, rfl, ex, ixN_nat (by omega), ?_⟩⟩
    obtain ⟨S1, k1⟩ := S.headed (vs := xv.set i hv) (hs' := hs.set i h) (P2.set ah i px)
    have t1 := S.tup (k1.wide fun x hx => by rw [List.mem_singleton] at hx; subst hx; simp)
    have ah1 := OptAt.st _ _ _ _ t1 ah
    have b1 : But [p, lh, lb] H (upd H lh (.lst (xv.set i hv))) := k1.wide fun x hx => by rw [List.mem_singleton] at hx; subst hx; simp
    generalize upd H lh (.lst (xv.set i hv)) = H1 at S1 k1 t1 ah1 b1 ⊢
    refine ⟨_, rfl, g_Tree_many T S1.ob ⟨_, rfl, _, _, rfl, rfl, ?_⟩⟩
    obtain ⟨bv, eb, pb⟩ := S1.best
    have lb_ := pb.length
    have bl := TO.len
    have TL := tree_leaf TO hi (by omega : i < 2 ^ e) h
    have hok' : ∀ s q, hd (hs.set i h) s = some q → isRow ks q.2 = true := fun s q hq => by
      unfold hd at hq
      rw [getD_set h hi] at hq
      split at hq
      · exact hrow q hq
      · exact hok s q hq
    have ec : (((2 ^ e : Nat) : Int) + ((i : Nat) : Int)) = ((2 ^ e + i : Nat) : Int) := by omega
    have go : ∀ v : V, NatAt H1 v (if h.isSome then some i else none) → ∀ σ : L2.St, σ = [some (.ref p), some (.int (i : Int)), some hv, some (.int ((2 ^ e + i : Nat) : Int))] → (gSub (tFl K (tVar 0) "best") (tVar 3) rSetL) v σ H1
        fun σ2 H2 => (tWhile (tTest (tOpC xGt (tVar 3) (.int 1))) (tSeq (tAsg (tOpC xDiv (tVar 3) (.int 2)) (gName 3)) (tAsg (tMeth (He.ga K "Tree") "lesser" (sp_Tree_lesser K) [] E (tVar 0) (tCons (tOp (rIxL K) (tFl K (tVar 0) "best") (tOpD xMul (.int 2) (tVar 3))) (tCons (tOp (rIxL K) (tFl K (tVar 0) "best") (tOpC xAdd (tOpD xMul (.int 2) (tVar 3)) (.int 1))) tNil))) (gSub (tFl K (tVar 0) "best") (tVar 3) rSetL)))) { nx := fun _ H' => Q .non H', rt := Q } σ2 H2 := fun v av σ es => by
      subst es
      refine ⟨_, rfl, g_Tree_best T S1.ob ⟨_, rfl, _, _, _, 2 ^ e + i, rfl, rfl, eb, ixN_nat (by omega), ?_⟩⟩
      obtain ⟨S2, k2⟩ := S1.bested (vs := bv.set (2 ^ e + i) v) (bs' := bs.set (2 ^ e + i) (if h.isSome then some i else none)) (P2.set av _ pb)
      have b2 : But [p, lh, lb] H _ := b1.trans (k2.wide fun x hx => by rw [List.mem_singleton] at hx; subst hx; simp)
      refine ⟨fun m σ H' => ∃ (n f : Nat) (bs' : List (Option Nat)) (looks' : Int), m = n ∧ σ = [some (.ref p), some (.int (i : Int)), some hv, some (.int (n : Int))] ∧ TreeS K H' p lo lh lb o (hs.set i h) bs' (2 ^ e) looks' ∧ TreeOk o (hs.set i h) bs' (2 ^ e) (Above n) ∧ 1 ≤ n ∧ n < 2 ^ (f + 1) ∧ f ≤ e ∧ looks ≤ looks' ∧ looks' + (f : Int) ≤ looks + (e : Int) ∧ But [p, lh, lb] H H',
        ⟨_, 2 ^ e + i, e, _, looks, rfl, rfl, S2, TL, by have := Nat.one_le_two_pow (n := e); omega, by rw [Nat.pow_succ]; omega, Nat.le_refl _, Int.le_refl _, Int.le_refl _, b2⟩, ?_⟩
      rintro n σ H3 ⟨_, f, bs3, looks3, rfl, rfl, S3, T3, n1, nf, fe, q1, q2, b3⟩
      refine ⟨_, rfl, _, _, rfl, rfl, _, rfl, ?_⟩
      by_cases hn : (1 : Int) < (n : Int)
      · rw [decide_eq_true hn]
        have hn2 : 1 ≤ n / 2 := by omega
        have f1 : 1 ≤ f := by
          cases f with
          | zero => simp at nf; omega
          | succ f => omega
        have hlt : n / 2 < 2 ^ e := by
          have : n / 2 < 2 ^ f := by rw [Nat.pow_succ] at nf; omega
          exact Nat.lt_of_lt_of_le this (Nat.pow_le_pow_right (by omega) fe)
        obtain ⟨bv3, eb3, pb3⟩ := S3.best
        have lb3 := pb3.length
        have bl3 := T3.len
        have g : ∀ j, j < bs3.length → bs3[j]? = some (bst bs3 j) := fun j hj => by
          unfold bst
          rw [List.getD_eq_getElem?_getD, List.getElem?_eq_getElem hj]
          rfl
        obtain ⟨v1, gv1, av1⟩ := P2.get' pb3 (g (2 * (n / 2)) (by omega))
        obtain ⟨v2, gv2, av2⟩ := P2.get' pb3 (g (2 * (n / 2) + 1) (by omega))
        have e1 : (2 * ((n : Int) / 2)) = ((2 * (n / 2) : Nat) : Int) := by omega
        have e2 : (2 * ((n : Int) / 2) + 1) = ((2 * (n / 2) + 1 : Nat) : Int) := by omega
        obtain ⟨dx, hob⟩ := S3.ob
        have sm : ∀ j, j = 2 * (n / 2) ∨ j = 2 * (n / 2) + 1 → HdOk ks (hs.set i h) (bst bs3 j) := fun j hj => HdOk.of hok' fun s hs_ => (tree_some' T3 above_up _ j rfl (by omega) (by omega) (above_kids (by omega) (by omega)) s hs_).1
        refine ⟨fun σ H' => ∃ (n' f' : Nat) (bs' : List (Option Nat)) (looks' : Int), n' < n ∧ σ = [some (.ref p), some (.int (i : Int)), some hv, some (.int (n' : Int))] ∧ TreeS K H' p lo lh lb o (hs.set i h) bs' (2 ^ e) looks' ∧ TreeOk o (hs.set i h) bs' (2 ^ e) (Above n') ∧ 1 ≤ n' ∧ n' < 2 ^ (f' + 1) ∧ f' ≤ e ∧ looks ≤ looks' ∧ looks' + (f' : Int) ≤ looks + (e : Int) ∧ But [p, lh, lb] H H', ?_, ?_⟩
        · rintro σ H' ⟨n', f', bs', looks', a1, a2⟩
          exact ⟨n', a1, n', f', bs', looks', rfl, a2⟩
        · refine ⟨_, rfl, _, _, rfl, rfl, div_ok (by decide) (by decide), ?_⟩
          refine ⟨_, rfl, p, dx, _, rfl, hob, no_Tree_lesser, _, rfl, g_Tree_best T S3.ob ⟨_, rfl, _, _, rfl, rfl, .inl ⟨by decide, by decide⟩, ixL eb3 e1 gv1 ⟨_, rfl, g_Tree_best T S3.ob ⟨_, rfl, _, _, rfl, rfl, .inl ⟨by decide, by decide⟩, _, _, rfl, rfl, ixL eb3 e2 gv2 ?_⟩⟩⟩⟩
          refine ⟨p, lo, lh, lb, o, _, bs3, 2 ^ e, looks3, ks, _, _, rfl, av1, av2, S3, hcol, sm _ (.inl rfl), sm _ (.inr rfl), fun v H4 av S4 k4 => ?_⟩
          obtain ⟨bv4, eb4, pb4⟩ := S4.best
          have lb4 := pb4.length
          refine ⟨_, rfl, g_Tree_best T S4.ob ⟨_, rfl, _, _, _, n / 2, rfl, rfl, eb4, ?_, ?_⟩⟩
          · have : ((n : Int) / 2) = ((n / 2 : Nat) : Int) := by omega
            rw [this]
            exact ixN_nat (by omega)
          obtain ⟨S5, k5⟩ := S4.bested (vs := bv4.set (n / 2) v) (bs' := bs3.set (n / 2) (pick o (hs.set i h) (bst bs3 (2 * (n / 2))) (bst bs3 (2 * (n / 2) + 1)))) (P2.set av _ pb4)
          have lkb : 0 ≤ lk (bst bs3 (2 * (n / 2))) (bst bs3 (2 * (n / 2) + 1)) ∧ lk (bst bs3 (2 * (n / 2))) (bst bs3 (2 * (n / 2) + 1)) ≤ 1 := by
            unfold lk
            split <;> decide
          have pf : 2 ^ (f - 1 + 1) = 2 ^ f := by rw [Nat.sub_add_cancel f1]
          refine ⟨n / 2, f - 1, _, _, by omega, by congr 1, S5, tree_knot T3 hn2 hlt, hn2, by rw [pf]; rw [Nat.pow_succ] at nf; omega, by omega, by omega, by omega, ?_⟩
          exact (b3.trans (k4.wide fun x hx => by rw [List.mem_singleton] at hx; subst hx; simp)).trans (k5.wide fun x hx => by rw [List.mem_singleton] at hx; subst hx; simp)
      · rw [decide_eq_false hn]
        have en : n = 1 := by omega
        subst en
        exact k bs3 looks3 H3 S3 (T3.imp fun j hj => (above_one hj)) q1 (by omega) b3
    refine ⟨_, rfl, rfl, _, rfl, ?_⟩
    cases h with
    | none =>
      have e0 : hv = .non := ah
      subst e0
      exact go .non rfl _ (by rw [← ec]; rfl)
    | some q =>
      rw [opt_some ah]
      exact ⟨_, rfl, go (.int (i : Int)) rfl _ (by rw [← ec]; rfl)⟩
abbrev N_Tree___init__ : List Str := ["self", "order", "heads", "source", "knot"]
abbrev P_Tree___init__ : List Str := ["self", "order", "heads"]
/-- how many there are from a on -/
def cnt (bs : List (Option Nat)) (a : Nat) : Nat := ((bs.drop a).filter fun z => z.isSome).length
def sp_Tree___init__ (K : PySem.W.Frag) : Sp := fun vs H Q E => match vs with
  | [s, ov, hv] => ∃ p dx lo o lhs hs ks, s = .ref p ∧ ov = .ref lo ∧ hv = .ref lhs ∧ H p = some (.ins (He.ga K "Tree") dx []) ∧ Lst TurnAt H lo o ∧ Lst OptAt H lhs hs ∧ hs.length ≤ 1000 ∧ (∀ t ∈ o, t.1 < ks.length) ∧ (∀ s q, hd hs s = some q → isRow ks q.2 = true) ∧
    ∀ (lh lb : Addr) (bs : List (Option Nat)) (e : Nat) (looks : Int) (H' : Hp), TreeS K H' p lo lh lb o hs bs (2 ^ e) looks → TreeOk o hs bs (2 ^ e) (fun _ => False) → hs.length ≤ 2 ^ e → (e = 0 ∨ 2 ^ e < 2 * hs.length) → looks = (cnt bs (2 ^ e) : Int) - (if (bst bs 1).isSome then 1 else 0) → H lh = none → H lb = none → But [p] H H' → Q .non H'
  | _ => False
def t_Tree___init__ (K : PySem.W.Frag) (E : XK) : TS := (tSeq (sFl K (tVar 0) (tVar 1) "order")
  (tSeq (sFl K (tVar 0) (tCB1 (xList K) (tVar 2)) "heads")
   (tSeq (sFl K (tVar 0) (tC (.int 1)) "many")
    (tSeq (sFl K (tVar 0) (tC (.int 0)) "looks")
     (tSeq (tWhile (tTest (tOp xLt (tFl K (tVar 0) "many") (tCB1 (xLen K) (tFl K (tVar 0) "heads")))) (sFl K (tVar 0) (tOpD xMul (.int 2) (tFl K (tVar 0) "many")) "many"))
      (tSeq (sFl K (tVar 0) (tOp rRep (tLst (tConsC .non tNil)) (tFl K (tVar 0) "many")) "best")
       (tSeq (tFor (iRng1 (tCons (tFl K (tVar 0) "many") tNil)) (gName 3) (tDrop (tBM K "list" rAppend (tFl K (tVar 0) "best") (tCons (tIf (tAnd (tTest (tOp xLt (tVar 3) (tCB1 (xLen K) (tFl K (tVar 0) "heads")))) (tTest (tOpC rNotN (tOp (rIxL K) (tFl K (tVar 0) "heads") (tVar 3)) .non))) (tVar 3) (tC .non)) tNil))))
        (tFor (iRng3 (tCons (tOpC xSub (tFl K (tVar 0) "many") (.int 1)) (tConsC (.int 0) (tConsC (.int (-1)) tNil)))) (gName 4) (tAsg (tMeth (He.ga K "Tree") "lesser" (sp_Tree_lesser K) [] E (tVar 0) (tCons (tOp (rIxL K) (tFl K (tVar 0) "best") (tOpD xMul (.int 2) (tVar 4))) (tCons (tOp (rIxL K) (tFl K (tVar 0) "best") (tOpC xAdd (tOpD xMul (.int 2) (tVar 4)) (.int 1))) tNil))) (gSub (tFl K (tVar 0) "best") (tVar 4) rSetL))))))))))
theorem cnt_step {bs : List (Option Nat)} {a : Nat} (h : a < bs.length) : cnt bs a = (if (bst bs a).isSome then 1 else 0) + cnt bs (a + 1) := by
  unfold cnt bst
  rw [List.drop_eq_getElem_cons h, List.getD_eq_getElem?_getD, List.getElem?_eq_getElem h, List.filter_cons]
  show _ = (if bs[a].isSome = true then 1 else 0) + _
  cases bs[a].isSome
  · simp
  · simp [Nat.add_comm]
theorem cnt_set {bs : List (Option Nat)} {a k : Nat} {v : Option Nat} (h : k < a) : cnt (bs.set k v) a = cnt bs a := by
  unfold cnt
  rw [List.drop_set_of_lt h]
theorem rep_none : ∀ n : Nat, (List.replicate n [V.non]).flatten = List.replicate n V.non
  | 0 => rfl
  | n + 1 => by rw [List.replicate_succ, List.flatten_cons, rep_none n, List.replicate_succ]; rfl
theorem rep_nat {H : Hp} : ∀ n : Nat, Paired (NatAt H) (List.replicate n V.non) (List.replicate n none)
  | 0 => .nil
  | n + 1 => by rw [List.replicate_succ, List.replicate_succ]; exact .cons rfl (rep_nat n)
theorem pick_some {o : Ord} {hs : Hds} (a b : Option Nat) : (if (pick o hs a b).isSome then (1 : Int) else 0) + lk a b = (if a.isSome then (1 : Int) else 0) + (if b.isSome then (1 : Int) else 0) := by
  cases a with
  | none => cases b <;> simp [pick, lk]
  | some i =>
    cases b with
    | none => simp [pick, lk]
    | some j =>
      rw [pick_ss]
      split <;> simp [lk]
theorem pure_Tree___init__ {K : PySem.W.Frag} (T : TxtTree K) : ∀ vs H Q E, sp_Tree___init__ K vs H Q E → t_Tree___init__ K E { nx := fun _ H' => Q .non H', rt := Q } (start N_Tree___init__ vs) H := by
  intro vs H Q E h
  match vs, h with
  | [s, ov, hv], h =>
    obtain ⟨p, dx, lo, o, lhs, hs, ks, rfl, rfl, rfl, hp, Lo, Lh, hlen, hcol, hok, k⟩ := h
    obtain ⟨xv, ex, px⟩ := Lh
    have lx := px.length
    have plo : lo ≠ p := by
      obtain ⟨tv, e, _⟩ := Lo
      exact ne_of e hp (by intro z; cases z)
    have plh : lhs ≠ p := ne_of ex hp (by intro z; cases z)
    refine ⟨_, rfl, _, rfl, n_Tree_order T hp ?_⟩
    have k1 : But [p] H (upd H p (.ins (He.ga K "Tree") dx (i_Tree_1 (.ref lo)))) := (But.refl _ H).put (by simp)
    have hp1 : upd H p (.ins (He.ga K "Tree") dx (i_Tree_1 (.ref lo))) p = some _ := upd_same
    have ex1 := up (u := .ins (He.ga K "Tree") dx (i_Tree_1 (.ref lo))) ex plh
    generalize upd H p (.ins (He.ga K "Tree") dx (i_Tree_1 (.ref lo))) = H1 at k1 hp1 ex1 ⊢
    refine ⟨_, rfl, _, _, rfl, .inl (SqL.of ex1), fun lh hlh => ⟨_, rfl, ?_⟩⟩
    have nplh : p ≠ lh := ne_of_none hp1 hlh
    have hlh0 : H lh = none := none_of_but k1 hlh (ne1 nplh.symm)
    have k2 : But [p] H (upd H1 lh (.lst xv)) := k1.new hlh
    have hp2 := un (u := .lst xv) hp1 hlh
    have eh2 : upd H1 lh (.lst xv) lh = some (.lst xv) := upd_same
    generalize upd H1 lh (.lst xv) = H2 at k2 hp2 eh2 ⊢
    refine n_Tree_heads T hp2 ?_
    refine ⟨_, rfl, n_Tree_many T upd_same ⟨_, rfl, n_Tree_looks T upd_same ?_⟩⟩
    have k3 : ∀ u1 u2 u3 : HO, But [p] H (upd (upd (upd H2 p u1) p u2) p u3) := fun u1 u2 u3 => ((k2.put (by simp)).put (by simp)).put (by simp)
    have eh3 : ∀ u1 u2 u3 : HO, upd (upd (upd H2 p u1) p u2) p u3 lh = some (.lst xv) := fun u1 u2 u3 => up (up (up eh2 nplh.symm) nplh.symm) nplh.symm
    refine ⟨fun m σ H' => ∃ (e : Nat), m = 4000 - 2 ^ e ∧ σ = [some (.ref p), some (.ref lo), some (.ref lhs), none, none] ∧ H' p = some (.ins (He.ga K "Tree") dx (i_Tree_4 (.ref lo) (.ref lh) (.int ((2 ^ e : Nat) : Int)) (.int 0))) ∧ H' lh = some (.lst xv) ∧ But [p] H H' ∧ (e = 0 ∨ 2 ^ e < 2 * hs.length),
      ⟨_, 0, rfl, rfl, upd_same, eh3 _ _ _, k3 _ _ _, .inl rfl⟩, ?_⟩
    clear k3 eh3 k2 hp2 eh2
    rintro m σ H3 ⟨e, rfl, rfl, hp3, eh3, k3, he⟩
    refine ⟨_, rfl, gi_Tree_4_many T hp3 ⟨_, rfl, gi_Tree_4_heads T hp3 (lenL eh3 rfl ⟨_, _, rfl, rfl, _, rfl, ?_⟩)⟩⟩
    have e1000 : 2 ^ e ≤ 2000 := by
      rcases he with rfl | he
      · decide
      · omega
    by_cases hlt : (((2 ^ e : Nat) : Int) < (xv.length : Int))
    · rw [decide_eq_true hlt]
      refine ⟨fun σ H' => ∃ (e' : Nat), 4000 - 2 ^ e' < 4000 - 2 ^ e ∧ σ = [some (.ref p), some (.ref lo), some (.ref lhs), none, none] ∧ H' p = some (.ins (He.ga K "Tree") dx (i_Tree_4 (.ref lo) (.ref lh) (.int ((2 ^ e' : Nat) : Int)) (.int 0))) ∧ H' lh = some (.lst xv) ∧ But [p] H H' ∧ (e' = 0 ∨ 2 ^ e' < 2 * hs.length), ?_, ?_⟩
      · rintro σ H' ⟨e', a1, a2⟩
        exact ⟨_, a1, e', rfl, a2⟩
      · refine ⟨_, rfl, gi_Tree_4_many T hp3 ⟨_, _, rfl, rfl, .inl ⟨by decide, by decide⟩, _, rfl, si_Tree_4_many T hp3 ?_⟩⟩
        have e2 : (2 * ((2 ^ e : Nat) : Int)) = ((2 ^ (e + 1) : Nat) : Int) := by rw [Nat.pow_succ]; omega
        refine ⟨e + 1, by rw [Nat.pow_succ]; have := Nat.one_le_two_pow (n := e); omega, rfl, by rw [← e2]; exact upd_same, up eh3 nplh.symm, k3.put (by simp), .inr (by rw [Nat.pow_succ]; omega)⟩
    rw [decide_eq_false hlt]
    have hle : hs.length ≤ 2 ^ e := by omega
    have e1 : 1 ≤ 2 ^ e := Nat.one_le_two_pow
    -- best
    refine ⟨by show 1 ≤ sizeLine; decide, fun l0 hl0 => ⟨_, rfl, gi_Tree_4_many T (un hp3 hl0) ⟨_, _, _, rfl, rfl, upd_same, by omega, by omega, by show 1 * _ ≤ sizeLine; exact szle (by omega), fun lb hlb => ⟨_, rfl, ?_⟩⟩⟩⟩
    have s4 : Same H3 (upd (upd H3 l0 (.lst [.non])) lb (.lst (List.replicate (((2 ^ e : Nat) : Int)).toNat [V.non]).flatten)) := (Rs.Same.new hl0).trans (Rs.Same.new hlb)
    have eb4 : upd (upd H3 l0 (.lst [.non])) lb (.lst (List.replicate (((2 ^ e : Nat) : Int)).toNat [V.non]).flatten) lb = some (.lst (List.replicate (2 ^ e) V.non)) := by
      rw [upd_same, rep_none]
      rfl
    have hlb3 : H3 lb = none := (Rs.Same.new hl0).free hlb
    generalize upd (upd H3 l0 (.lst [.non])) lb (.lst (List.replicate (((2 ^ e : Nat) : Int)).toNat [V.non]).flatten) = H4 at s4 eb4 ⊢
    have nplb : p ≠ lb := ne_of_none hp3 hlb3
    have nhb : lh ≠ lb := ne_of_none eh3 hlb3
    have hlb0 : H lb = none := none_of_but k3 hlb3 (ne1 nplb.symm)
    have nob : lo ≠ lb := by
      obtain ⟨tv, q, _⟩ := Lo
      exact ne_of_none q hlb0
    have noh : lo ≠ lh := by
      obtain ⟨tv, q, _⟩ := Lo
      exact ne_of_none q hlh0
    refine n_Tree_best T (s4 _ _ hp3) ?_
    have k5 : But [p] H (upd H4 p (.ins (He.ga K "Tree") dx (i_Tree_5 (.ref lo) (.ref lh) (.int ((2 ^ e : Nat) : Int)) (.int 0) (.ref lb)))) := (k3.trans (But.same s4)).put (by simp)
    have eb5 := up (u := .ins (He.ga K "Tree") dx (i_Tree_5 (.ref lo) (.ref lh) (.int ((2 ^ e : Nat) : Int)) (.int 0) (.ref lb))) eb4 nplb.symm
    have eh5 := up (u := .ins (He.ga K "Tree") dx (i_Tree_5 (.ref lo) (.ref lh) (.int ((2 ^ e : Nat) : Int)) (.int 0) (.ref lb))) (s4 _ _ eh3) nplh.symm
    have hp5 : upd H4 p (.ins (He.ga K "Tree") dx (i_Tree_5 (.ref lo) (.ref lh) (.int ((2 ^ e : Nat) : Int)) (.int 0) (.ref lb))) p = some (.ins (He.ga K "Tree") dx (f_Tree (.ref lo) (.ref lh) (.int ((2 ^ e : Nat) : Int)) (.int 0) (.ref lb))) := upd_same
    generalize upd H4 p (.ins (He.ga K "Tree") dx (i_Tree_5 (.ref lo) (.ref lh) (.int ((2 ^ e : Nat) : Int)) (.int 0) (.ref lb))) = H5 at k5 eb5 eh5 hp5 ⊢
    have t5 : TupLe H H5 := k5.tupOf fun b hb => by rw [List.mem_singleton] at hb; subst hb; exact nt_ins hp
    have S5 : TreeS K H5 p lo lh lb o hs (List.replicate (2 ^ e) none) (2 ^ e) 0 := ⟨⟨dx, hp5⟩, Lo.keep TurnAt.st t5 fun u q => k5 _ _ q (ne1 plo), ⟨xv, eh5, Paired.tl OptAt.st t5 px⟩, ⟨_, eb5, rep_nat _⟩, nhb, noh, nob⟩
    clear eb5 eh5 hp5 s4 eb4 k3 eh3 hp3
    refine ⟨_, rfl, g_Tree_many T S5.ob ⟨_, rfl, by omega, by omega, ?_⟩⟩
    -- the leaves
    refine for_range (lo := 0) (n := (((2 ^ e : Nat) : Int)).toNat) (fun j σ H' => ∃ x3, σ = [some (.ref p), some (.ref lo), some (.ref lhs), x3, none] ∧ TreeS K H' p lo lh lb o hs (List.replicate (2 ^ e) none ++ (List.range j).map (leafOf hs)) (2 ^ e) 0 ∧ But [p, lb] H5 H')
      ⟨none, rfl, by simpa using S5, But.refl _ _⟩ ?_ ?_
    · rintro j σ H6 hj ⟨x3, rfl, S6, k6⟩
      have hj2 : j < 2 ^ e := by omega
      obtain ⟨hv6, eh6, ph6⟩ := S6.heads
      have lh6 := ph6.length
      have z : (0 + (j : Int)) = ((j : Nat) : Int) := by omega
      obtain ⟨bv, eb, pb⟩ := S6.best
      have lbl := pb.length
      rw [List.length_append, List.length_replicate, List.length_map, List.length_range] at lbl
      have put : ∀ v : V, NatAt H6 v (leafOf hs j) → rAppend (.ref lb) [v] H6 fun _ H1 => ∃ x3, ([some (V.ref p), some (.ref lo), some (.ref lhs), some (.int (0 + (j : Int))), none] : L2.St) = [some (.ref p), some (.ref lo), some (.ref lhs), x3, none] ∧ TreeS K H1 p lo lh lb o hs (List.replicate (2 ^ e) none ++ (List.range (j + 1)).map (leafOf hs)) (2 ^ e) 0 ∧ But [p, lb] H5 H1 := fun v av => by
        refine ⟨_, _, _, rfl, rfl, eb, szlt (by omega), _, rfl, ?_⟩
        obtain ⟨S7, k7⟩ := S6.bested (vs := bv ++ [v]) (bs' := (List.replicate (2 ^ e) none ++ (List.range j).map (leafOf hs)) ++ [leafOf hs j]) (P2.app pb (P2.one av))
        refine ⟨?_, k6.trans (k7.wide fun x hx => by rw [List.mem_singleton] at hx; subst hx; simp)⟩
        rw [List.range_succ, List.map_append, ← List.append_assoc]
        exact S7
      refine ⟨_, rfl, g_Tree_best T S6.ob ⟨.inl ⟨rfl, _, SqL.of eb⟩, _, rfl, _, rfl, g_Tree_heads T S6.ob (lenL eh6 rfl ⟨_, _, rfl, rfl, _, rfl, ?_⟩)⟩⟩
      by_cases hlt : (0 + (j : Int)) < (hv6.length : Int)
      · rw [decide_eq_true hlt]
        have hjh : j < hs.length := by omega
        obtain ⟨v, gv, av⟩ := P2.get' ph6 (List.getElem?_eq_getElem hjh)
        refine ⟨_, rfl, g_Tree_heads T S6.ob ⟨_, rfl, ixL eh6 z gv ⟨rfl, _, rfl, ?_⟩⟩⟩
        have eh : hd hs j = hs[j] := by
          unfold hd
          rw [List.getD_eq_getElem?_getD, List.getElem?_eq_getElem hjh]
          rfl
        cases hq : hs[j] with
        | none =>
          rw [hq] at av eh
          have ev : v = .non := av
          subst ev
          exact put .non (by unfold leafOf; rw [eh]; rfl)
        | some q =>
          rw [hq] at av eh
          rw [opt_some av]
          exact ⟨_, rfl, put (.int (0 + (j : Int))) (by unfold leafOf; rw [eh, z]; rfl)⟩
      · rw [decide_eq_false hlt]
        refine put .non ?_
        have eh : hd hs j = none := by
          unfold hd
          rw [List.getD_eq_getElem?_getD, List.getElem?_eq_none (by omega)]
          rfl
        unfold leafOf
        rw [eh]
        rfl
    rintro σ H6 ⟨x3, rfl, S6, k6⟩
    have en : (((2 ^ e : Nat) : Int)).toNat = 2 ^ e := by omega
    rw [en] at S6
    -- the knots
    have TO : TreeOk o hs (List.replicate (2 ^ e) none ++ (List.range (2 ^ e)).map (leafOf hs)) (2 ^ e) fun j => j ≤ 2 ^ e - 1 := by
      refine ⟨by rw [List.length_append, List.length_replicate, List.length_map, List.length_range]; omega, fun s hs_ => ?_, fun j j1 j2 nb => absurd (by omega) nb⟩
      unfold bst
      rw [List.getD_eq_getElem?_getD, List.getElem?_append_right (by rw [List.length_replicate]; omega), List.length_replicate, Nat.add_sub_cancel_left, List.getElem?_map, List.getElem?_range hs_]
      rfl
    refine ⟨_, rfl, g_Tree_many T S6.ob ⟨_, _, rfl, rfl, _, _, _, _, rfl, RgC.neg (by omega) (by omega) (by decide) (by decide), ?_⟩⟩
    have en2 : (((2 ^ e : Nat) : Int) - 1 - 0).toNat = 2 ^ e - 1 := by omega
    rw [en2]
    refine for_rangeC (fun j σ H' => ∃ x4 bs looks, σ = [some (.ref p), some (.ref lo), some (.ref lhs), x3, x4] ∧ TreeS K H' p lo lh lb o hs bs (2 ^ e) looks ∧ TreeOk o hs bs (2 ^ e) (fun i => i ≤ 2 ^ e - 1 - j) ∧ looks = (cnt bs (2 * (2 ^ e - j)) : Int) - cnt bs (2 ^ e - j) + cnt bs (2 ^ e) ∧ But [p, lb] H5 H')
      ⟨none, _, 0, rfl, S6, TO, ?_, k6⟩ ?_ ?_
    · have : cnt (List.replicate (2 ^ e) none ++ (List.range (2 ^ e)).map (leafOf hs)) (2 * (2 ^ e - 0)) = 0 := by
        unfold cnt
        rw [List.drop_of_length_le (by rw [List.length_append, List.length_replicate, List.length_map, List.length_range]; omega)]
        rfl
      rw [this, Nat.sub_zero]
      omega
    · rintro j σ H7 hj ⟨x4, bs, looks, rfl, S7, T7, hlk, k7⟩
      have ek : (((2 ^ e : Nat) : Int) - 1 + (j : Nat) * (-1)) = ((2 ^ e - 1 - j : Nat) : Int) := by omega
      rw [ek]
      generalize hkn : 2 ^ e - 1 - j = kn at T7 hj ⊢
      have hkn1 : 1 ≤ kn := by omega
      have hkn2 : kn < 2 ^ e := by omega
      obtain ⟨bv, eb, pb⟩ := S7.best
      have lbv := pb.length
      have bl := T7.len
      have g : ∀ j, j < bs.length → bs[j]? = some (bst bs j) := fun j hj => by
        unfold bst
        rw [List.getD_eq_getElem?_getD, List.getElem?_eq_getElem hj]
        rfl
      obtain ⟨v1, gv1, av1⟩ := P2.get' pb (g (2 * kn) (by omega))
      obtain ⟨v2, gv2, av2⟩ := P2.get' pb (g (2 * kn + 1) (by omega))
      have e1 : (2 * (kn : Int)) = ((2 * kn : Nat) : Int) := by omega
      have e2 : (2 * (kn : Int) + 1) = ((2 * kn + 1 : Nat) : Int) := by omega
      have sm : ∀ j, j = 2 * kn ∨ j = 2 * kn + 1 → HdOk ks hs (bst bs j) := fun j hj => HdOk.of hok fun s hs_ => (tree_some' T7 (fun a b _ h2 h3 => by omega) _ j rfl (by omega) (by omega) (by omega) s hs_).1
      obtain ⟨dx7, hob⟩ := S7.ob
      refine ⟨_, rfl, p, dx7, _, rfl, hob, no_Tree_lesser, _, rfl, g_Tree_best T S7.ob ⟨_, rfl, _, _, rfl, rfl, .inl ⟨by decide, by decide⟩, ixL eb e1 gv1 ⟨_, rfl, g_Tree_best T S7.ob ⟨_, rfl, _, _, rfl, rfl, .inl ⟨by decide, by decide⟩, _, _, rfl, rfl, ixL eb e2 gv2 ?_⟩⟩⟩⟩
      refine ⟨p, lo, lh, lb, o, hs, bs, 2 ^ e, looks, ks, _, _, rfl, av1, av2, S7, hcol, sm _ (.inl rfl), sm _ (.inr rfl), fun v H8 av S8 k8 => ?_⟩
      obtain ⟨bv8, eb8, pb8⟩ := S8.best
      have lb8 := pb8.length
      refine ⟨_, rfl, g_Tree_best T S8.ob ⟨_, rfl, _, _, _, kn, rfl, rfl, eb8, ixN_nat (by omega), ?_⟩⟩
      obtain ⟨S9, k9⟩ := S8.bested (vs := bv8.set kn v) (bs' := bs.set kn (pick o hs (bst bs (2 * kn)) (bst bs (2 * kn + 1)))) (P2.set av _ pb8)
      have T9 := tree_down T7 hkn1 hkn2
      refine ⟨_, _, _, rfl, S9, ?_, ?_, (k7.trans (k8.wide fun x hx => by rw [List.mem_singleton] at hx; subst hx; simp)).trans (k9.wide fun x hx => by rw [List.mem_singleton] at hx; subst hx; simp)⟩
      · have : 2 ^ e - 1 - (j + 1) = kn - 1 := by omega
        rw [this]
        exact T9
      · have a1 : 2 ^ e - (j + 1) = kn := by omega
        have a2 : 2 ^ e - j = kn + 1 := by omega
        rw [a1]
        rw [a2] at hlk
        have c1 := cnt_step (bs := bs.set kn (pick o hs (bst bs (2 * kn)) (bst bs (2 * kn + 1)))) (a := kn) (by rw [List.length_set]; omega)
        rw [bst_set (by omega), if_pos rfl, cnt_set (a := kn + 1) (by omega)] at c1
        have c2 := cnt_step (bs := bs) (a := 2 * kn) (by omega)
        have c3 := cnt_step (bs := bs) (a := 2 * kn + 1) (by omega)
        have c4 := pick_some (o := o) (hs := hs) (bst bs (2 * kn)) (bst bs (2 * kn + 1))
        have a3 : 2 * (kn + 1) = 2 * kn + 1 + 1 := by omega
        rw [a3] at hlk
        rw [cnt_set (by omega : kn < 2 * kn), cnt_set hkn2, c1]
        rw [hlk]
        generalize cnt bs (2 * kn + 1 + 1) = A at *
        generalize cnt bs (kn + 1) = B at *
        generalize cnt bs (2 ^ e) = C at *
        rw [c2, c3]
        generalize (bst bs (2 * kn)).isSome = b1 at *
        generalize (bst bs (2 * kn + 1)).isSome = b2 at *
        generalize lk (bst bs (2 * kn)) (bst bs (2 * kn + 1)) = l at *
        generalize (pick o hs (bst bs (2 * kn)) (bst bs (2 * kn + 1))).isSome = b3 at *
        cases b1 <;> cases b2 <;> cases b3 <;> simp only [Bool.false_eq_true, if_false, if_true] at c4 ⊢ <;> omega
    · rintro σ H7 ⟨x4, bs, looks, rfl, S7, T7, hlk, k7⟩
      have a2 : 2 ^ e - (2 ^ e - 1) = 1 := by omega
      rw [a2] at hlk
      have c1 := cnt_step (bs := bs) (a := 1) (by rw [T7.len]; omega)
      have k8 : But [p] H H7 := fun b u q nb => k7 b u (k5 b u q nb) (by
        simp only [List.mem_cons, List.not_mem_nil, or_false] at nb ⊢
        rintro (h | h)
        · exact nb h
        · rw [h, hlb0] at q; cases q)
      refine k lh lb bs e looks H7 S7 ⟨T7.len, T7.leaf, fun j j1 j2 _ => T7.knot j j1 j2 (by omega)⟩ hle he ?_ hlh0 hlb0 k8
      rw [hlk, c1]
      generalize (bst bs 1).isSome = b
      cases b <;> simp <;> omega
end Rs

namespace Rs
open PySem PySem.Spec PyProof.Rows L2
abbrev N_is_run : List Str := ["kinds", "order", "run", "number", "row", "k"]
abbrev P_is_run : List Str := ["kinds", "order", "run"]
/-- a run: numbers from 0, rows, rising -/
def isRunB (ks : List Str) (o : Ord) (xs : List Pr) : Bool := (xs.all fun p => decide (0 ≤ p.1) && isRow ks p.2) && (List.range (xs.length - 1)).all fun i => before o (xs.getD i c0.2) (xs.getD (i + 1) c0.2)
def sp_is_run (K : PySem.W.Frag) : Sp := fun vs H Q E => match vs with
  | [kv, ov, rv] => ∃ ks o xs lo lr, KindsAt H kv ks ∧ ks.length ≤ 1000 ∧ ov = .ref lo ∧ Lst TurnAt H lo o ∧ (∀ t ∈ o, t.1 < ks.length) ∧ rv = .ref lr ∧ Lst PairAt H lr xs ∧ (∀ p ∈ xs, RowSz p.2) ∧ xs.length ≤ 1000 ∧ ∀ H', Same H H' → Q (.bl (isRunB ks o xs)) H'
  | _ => False
def t_is_run (K : PySem.W.Frag) (E : XK) : TS := (tSeq (tFor (iList K (tVar 2)) (gTup K 2 (gCons (gName 3) (gCons (gName 4) gNil))) 
    (tIfS (tOr (tTest (tOpC xLt (tVar 3) (.int 0))) (tNot (tB (tCall (sp_is_row K) [] E (tCons (tVar 0) (tCons (tVar 4) tNil)))))) (tRet (tC (.bl false))) tNext))
  (tRet (tOp (xEqE K) (tLc (iRng2 (tConsC (.int 1) (tCons (tCB1 (xLen K) (tVar 2)) tNil))) (gName 5) (tNot (tB (tCall (sp_is_before K) [] E0 (tCons (tVar 1) (tCons (tOp (rIxL K) (tVar 2) (tOpC xSub (tVar 5) (.int 1))) (tCons (tOp (rIxL K) (tVar 2) (tVar 5)) tNil)))))) (tVar 5) [5]) (tLst tNil))))
theorem pure_is_run {K : PySem.W.Frag} : ∀ vs H Q E, sp_is_run K vs H Q E → t_is_run K E { nx := fun _ H' => Q .non H', rt := Q } (start N_is_run vs) H := by
  intro vs H Q E h
  match vs, h with
  | [kv, ov, rv], h =>
    obtain ⟨ks, o, xs, lo, lr, hk, hkl, rfl, Lo, hcol, rfl, ⟨xv, ex, px⟩, hsz, hlen, k⟩ := h
    have lx := px.length
    refine ⟨_, rfl, lr, rfl, ⟨_, SqL.of ex⟩, ?_⟩
    refine for_list (K := K) (a := lr) (xs := xv) (fun j σ H' => ∃ x3 x4, σ = [some kv, some (.ref lo), some (.ref lr), x3, x4, none] ∧ Same H H' ∧ ∀ p ∈ xs.take j, 0 ≤ p.1 ∧ isRow ks p.2 = true) ⟨none, none, rfl, Same.refl H, by simp⟩ ?_ ?_ ?_
    · rintro j σ H' _ ⟨_, _, _, s, _⟩
      exact SqL.of (s _ _ ex)
    · rintro j v σ H' hj ⟨x3, x4, rfl, s, done⟩
      obtain ⟨q, hq, w, ⟨t, rfl, et⟩, hw⟩ := P2.get px hj
      have qm := List.mem_of_getElem? hq
      have st := TupLe.same s
      refine ⟨t, _, rfl, SqT.of (s _ _ et), rfl, _, _, rfl, _, _, rfl, rfl, ?_⟩
      have bad : isRunB ks o xs = false → ∀ H3, Same H H3 → Q (.bl false) H3 := fun e H3 s3 => by rw [← e]; exact k H3 s3
      refine ⟨_, rfl, _, _, rfl, rfl, _, rfl, ?_⟩
      by_cases h0 : q.1 < 0
      · rw [decide_eq_true h0]
        refine bad ?_ _ s
        unfold isRunB
        have : (xs.all fun p => decide (0 ≤ p.1) && isRow ks p.2) = false := by
          rw [List.all_eq_false]
          exact ⟨q, qm, by rw [decide_eq_false (by omega)]; simp⟩
        rw [this]
        rfl
      · rw [decide_eq_false h0]
        refine ⟨_, rfl, _, rfl, ks, q.2, hk.mono st, RowAt.st _ _ _ _ st hw, hsz q qm, hkl, fun H3 s3 => ⟨_, rfl, ?_⟩⟩
        cases hr : isRow ks q.2 with
        | false =>
          refine bad ?_ _ (s.trans s3)
          unfold isRunB
          have : (xs.all fun p => decide (0 ≤ p.1) && isRow ks p.2) = false := by
            rw [List.all_eq_false]
            exact ⟨q, qm, by rw [hr]; simp⟩
          rw [this]
          rfl
        | true =>
          refine ⟨_, _, rfl, s.trans s3, fun p hp => ?_⟩
          rw [List.take_succ, hq] at hp
          rcases List.mem_append.mp hp with z | z
          · exact done p z
          · have : p = q := by simpa using z
            subst this
            exact ⟨by omega, hr⟩
    · rintro σ H1 ⟨x3, x4, rfl, s1, done⟩
      rw [List.take_of_length_le (by omega)] at done
      have a1 : (xs.all fun p => decide (0 ≤ p.1) && isRow ks p.2) = true := by
        rw [List.all_eq_true]
        intro p hp
        rw [decide_eq_true (done p hp).1, (done p hp).2]
        rfl
      refine ⟨_, rfl, lenL (s1 _ _ ex) rfl ⟨_, _, rfl, ⟨by decide, by decide, by omega, by omega⟩, fun D hD => ?_⟩⟩
      have en : ((xv.length : Int) - 1).toNat = xs.length - 1 := by omega
      rw [en]
      refine lc_range (lo := 1) (n := xs.length - 1) (fun j H2 => H2 D = some (.lst (((List.range j).filter fun i => !before o (xs.getD i c0.2) (xs.getD (i + 1) c0.2)).map fun (i : Nat) => V.int (1 + (i : Int)))) ∧ Same H1 H2) ⟨upd_same, Rs.Same.new hD⟩ ?_ ?_
      · rintro j H2 hj ⟨hd, s2⟩
        have s := s1.trans s2
        have st := TupLe.same s
        obtain ⟨v1, g1, r1⟩ := P2.get' px (List.getElem?_eq_getElem (by omega : j < xs.length))
        obtain ⟨v2, g2, r2⟩ := P2.get' px (List.getElem?_eq_getElem (by omega : j + 1 < xs.length))
        have e1 : (1 + (j : Int)) - 1 = ((j : Nat) : Int) := by omega
        have e2 : (1 + (j : Int)) = ((j + 1 : Nat) : Int) := by omega
        have d1 : xs[j]'(by omega) = xs.getD j c0.2 := (getD_lt (by omega)).symm
        have d2 : xs[j + 1]'(by omega) = xs.getD (j + 1) c0.2 := (getD_lt (by omega)).symm
        rw [d1] at r1
        rw [d2] at r2
        refine ⟨rfl, _, rfl, _, rfl, _, rfl, _, _, rfl, rfl, ixL (s _ _ ex) e1 g1 ⟨_, rfl, _, rfl, ixL (s _ _ ex) e2 g2 ?_⟩⟩
        have m1 : xs.getD j c0.2 ∈ xs := getD_mem (by omega)
        have m2 : xs.getD (j + 1) c0.2 ∈ xs := getD_mem (by omega)
        refine ⟨o, _, _, ⟨lo, rfl, Lo.same TurnAt.st s⟩, PairAt.st _ _ _ _ st r1, PairAt.st _ _ _ _ st r2, cmp_of hcol (done _ m1).2 (done _ m2).2, _, rfl, ?_⟩
        have lf : ((List.range j).filter fun i => !before o (xs.getD i c0.2) (xs.getD (i + 1) c0.2)).length ≤ j := by
          have := List.length_filter_le (fun i => !before o (xs.getD i c0.2) (xs.getD (i + 1) c0.2)) (List.range j)
          rw [List.length_range] at this
          exact this
        cases hb : before o (xs.getD j c0.2) (xs.getD (j + 1) c0.2) with
        | true =>
          have ef : ([j].filter fun i => !before o (xs.getD i c0.2) (xs.getD (i + 1) c0.2)) = [] := by rw [List.filter_cons, hb] <;> rfl
          refine ⟨?_, s2⟩
          rw [hd, List.range_succ, List.filter_append, ef, List.append_nil]
        | false =>
          have ef : ([j].filter fun i => !before o (xs.getD i c0.2) (xs.getD (i + 1) c0.2)) = [j] := by rw [List.filter_cons, hb] <;> rfl
          refine ⟨_, rfl, _, hd, szlt (by rw [List.length_map]; omega), ?_, Rs.Same.mut s2 hD⟩
          rw [upd_same, List.range_succ, List.filter_append, ef, List.map_append] <;> rfl
      · rintro H2 ⟨hd, s2⟩
        refine ⟨sz0, fun p hp => eqE hd hp (b := isRunB ks o xs) ?_ (k _ ((s1.trans s2).trans (Rs.Same.new hp)))⟩
        unfold isRunB
        rw [a1, Bool.true_and, List.isEmpty_map, filter_nil_all]
abbrev N_need_runs : List Str := ["kinds", "order", "runs", "seen", "number", "run", "pair"]
abbrev P_need_runs : List Str := ["kinds", "order", "runs"]
theorem isRunB_row {ks : List Str} {o : Ord} {xs : List Pr} (h : isRunB ks o xs = true) : ∀ p ∈ xs, isRow ks p.2 = true := fun p hp => by
  unfold isRunB at h
  simp only [Bool.and_eq_true, List.all_eq_true, decide_eq_true_eq] at h
  exact (h.1 p hp).2
abbrev RunV : Rel (List Pr) := LstV PairAt
theorem runs_same {H H' : Hp} {l : Addr} {rs : List (List Pr)} (s : Same H H') (h : Lst RunV H l rs) : Lst RunV H' l rs := let ⟨vs, a, b⟩ := h; ⟨vs, s _ _ a, P2.mono (fun _ _ q => q.same PairAt.st s) b⟩
/-- the numbers that were seen -/
def seenK (ns : List Int) : List (Key × V) := ns.map fun n => (Sum.inl n, V.bl true)
def sp_need_runs (K : PySem.W.Frag) : Sp := fun vs H Q E => match vs with
  | [kv, ov, rv] => ∃ ks o rs lo lr, KindsAt H kv ks ∧ ks.length ≤ 4 ∧ ov = .ref lo ∧ Lst TurnAt H lo o ∧ (∀ t ∈ o, t.1 < ks.length) ∧ rv = .ref lr ∧ Lst RunV H lr rs ∧ rs.length ≤ 40 ∧ (∀ r ∈ rs, isRunB ks o r = true) ∧ (rs.flatten.map (·.1)).Nodup ∧ rs.flatten.length ≤ 1000 ∧ ∀ H', Same H H' → Q .non H'
  | _ => False
def t_need_runs (K : PySem.W.Frag) (E : XK) : TS := (tSeq (tAsg tDNewK (gName 3))
  (tFor (iEnum K (tCons (tVar 2) tNil)) (gTup K 2 (gCons (gName 4) (gCons (gName 5) gNil))) 
     (tSeq (tIfS (tOr (tTest (tOpC xGe (tVar 4) (.int 40))) (tNot (tB (tCall (sp_is_run K) [] E (tCons (tVar 0) (tCons (tVar 1) (tCons (tVar 5) tNil))))))) tNever tNext)
     (tFor (iList K (tVar 5)) (gName 6) 
        (tSeq (tIfS (tB (tDIn (tOpC (rIxT K) (tVar 6) (.int 0)) (tVar 3))) tNever tNext)
        (sDPut (tVar 3) (tOpC (rIxT K) (tVar 6) (.int 0)) (tC (.bl true))))))))
theorem seen_none {ns : List Int} {n : Int} (h : n ∉ ns) : valV (seenK ns) (Sum.inl n) = none := by
  induction ns with
  | nil => rfl
  | cons m ns ih =>
    show valV ((Sum.inl m, V.bl true) :: seenK ns) _ = _
    rw [valV_neg (by
      show ¬ (Sum.inl m : Key) = Sum.inl n
      intro e
      injection e with e
      exact h (by rw [e]; exact List.mem_cons_self ..))]
    exact ih fun z => h (List.mem_cons_of_mem _ z)
theorem take_flat {α : Type} {rs : List (List α)} {j : Nat} {r : List α} (h : rs[j]? = some r) : (rs.take (j + 1)).flatten = (rs.take j).flatten ++ r := by
  rw [List.take_succ, h, List.flatten_append]
  simp
theorem flat_len {α : Type} {rs : List (List α)} : ∀ j, (rs.take j).flatten.length ≤ rs.flatten.length := fun j => by
  have e : rs.flatten = (rs.take j).flatten ++ (rs.drop j).flatten := by rw [← List.flatten_append, List.take_append_drop]
  rw [e, List.length_append]
  omega
theorem pure_need_runs {K : PySem.W.Frag} : ∀ vs H Q E, sp_need_runs K vs H Q E → t_need_runs K E { nx := fun _ H' => Q .non H', rt := Q } (start N_need_runs vs) H := by
  intro vs H Q E h
  match vs, h with
  | [kv, ov, rv], h =>
    obtain ⟨ks, o, rs, lo, lr, hk, hkl, rfl, Lo, hcol, rfl, Lr, hrl, good, nd, hlen, k⟩ := h
    obtain ⟨xv, ex, px⟩ := id Lr
    have lx := px.length
    refine fun d hd => ?_
    have s0 : Same H (upd H d (.dK [])) := Rs.Same.new hd
    refine ⟨_, rfl, _, _, rfl, SqL.of (s0 _ _ ex), ?_⟩
    refine for_it (walk_enum (K := K) (a := lr) (xs := xv)) (fun i σ H' => ∃ x4 x5 x6, σ = [some kv, some (.ref lo), some (.ref lr), some (.ref d), x4, x5, x6] ∧ H' d = some (.dK (seenK ((rs.take i).flatten.map (·.1)))) ∧ Same H H') ⟨none, none, none, rfl, upd_same, s0⟩ ?_ ?_ ?_
    · rintro i σ H' _ ⟨_, _, _, _, _, s⟩
      exact SqL.of (s _ _ ex)
    · rintro i x σ H' H2 hi ⟨x4, x5, x6, rfl, hd1, s⟩ ⟨T, x1, w, rfl, hT, rfl, hx1, hw⟩
      cases hx1
      obtain ⟨r, hr, l, rfl, Lr'⟩ := P2.get px hw
      have rm := List.mem_of_getElem? hr
      have s2 := s.trans (Rs.Same.new (o := .tup [.int (i : Nat), .ref l]) hT)
      have hd2 := un (u := .tup [.int (i : Nat), .ref l]) hd1 hT
      refine ⟨T, _, rfl, SqT.of upd_same, rfl, _, _, rfl, _, _, rfl, rfl, ?_⟩
      refine ⟨_, rfl, _, _, rfl, rfl, _, rfl, ?_⟩
      rw [decide_eq_false (show ¬ (40 : Int) ≤ ((i : Nat) : Int) by omega)]
      have st := TupLe.same s2
      have gr := good r rm
      have fl := flat_len (rs := rs) (i + 1)
      rw [take_flat hr, List.length_append] at fl
      refine ⟨_, rfl, _, rfl, _, rfl, ks, o, r, lo, l, hk.mono st, by omega, rfl, Lo.same TurnAt.st s2, hcol, rfl, Lr'.same PairAt.st s2, fun p hp => RowSz.of (isRunB_row gr p hp) hkl, by omega, fun H3 s3 => ⟨_, rfl, ?_⟩⟩
      rw [gr]
      have s03 := s2.trans s3
      have hd3 := s3 _ _ hd2
      obtain ⟨rv, er, pr⟩ := Lr'
      have lrv := pr.length
      refine ⟨_, rfl, l, rfl, ⟨_, SqL.of (s03 _ _ er)⟩, ?_⟩
      refine for_list (K := K) (a := l) (xs := rv) (fun j σ H' => ∃ x6, σ = [some kv, some (.ref lo), some (.ref lr), some (.ref d), some (.int (i : Nat)), some (.ref l), x6] ∧ H' d = some (.dK (seenK (((rs.take i).flatten ++ r.take j).map (·.1)))) ∧ Same H H') ⟨_, rfl, by rw [List.take_zero, List.append_nil]; exact hd3, s03⟩ ?_ ?_ ?_
      · rintro j σ H' _ ⟨_, _, _, s⟩
        exact SqL.of (s _ _ er)
      · rintro j v σ H4 hj ⟨x6, rfl, hd4, s4⟩
        obtain ⟨q, hq, w, hvq, hw⟩ := P2.get pr hj
        have hvq4 := hvq.mono (TupLe.same s4)
        have nin : q.1 ∉ ((rs.take i).flatten ++ r.take j).map (·.1) := fun hm => by
          have e : rs.flatten = ((rs.take i).flatten ++ r.take j) ++ (r.drop j ++ (rs.drop (i + 1)).flatten) := by
            have e1 : rs.flatten = (rs.take (i + 1)).flatten ++ (rs.drop (i + 1)).flatten := by rw [← List.flatten_append, List.take_append_drop]
            rw [e1, take_flat hr, List.append_assoc, List.append_assoc, ← List.append_assoc (r.take j), List.take_append_drop]
          rw [e, List.map_append] at nd
          have := (List.nodup_append.mp nd).2.2 _ hm q.1 (by
            rw [drop_cons hq]
            simp)
          exact this rfl
        refine ⟨_, rfl, ixT hvq4 (j := 0) rfl rfl ⟨_, rfl, d, _, rfl, DGet.k (k := Sum.inl q.1) hd4, _, rfl, ?_⟩⟩
        rw [seen_none nin]
        refine ⟨_, rfl, _, rfl, ixT hvq4 (j := 0) rfl rfl ⟨d, _, rfl, DPut.k (k := Sum.inl q.1) hd4 (szlt (by
          unfold seenK
          rw [List.length_map, List.length_map, List.length_append, List.length_take]
          omega)), ?_⟩⟩
        refine ⟨_, rfl, ?_, Rs.Same.mut s4 hd⟩
        rw [upd_same, putK_new _ (seen_none nin), List.take_succ, hq]
        unfold seenK
        rw [← List.append_assoc, List.map_append (l₁ := (rs.take i).flatten ++ r.take j), List.map_append (f := fun n => ((Sum.inl n : Key), V.bl true))]
        rfl
      · rintro σ H4 ⟨x6, rfl, hd4, s4⟩
        rw [List.take_of_length_le (show r.length ≤ rv.length by omega), ← take_flat hr] at hd4
        exact ⟨_, _, _, rfl, hd4, s4⟩
    · rintro σ H' ⟨x4, x5, x6, rfl, _, s⟩
      exact k _ s
/-! ### merging by heads -/
theorem flat_set {α : Type} : ∀ {ts : List (List α)} {s : Nat} {p : α} {t : List α}, ts[s]? = some (p :: t) → ts.flatten.Perm (p :: (ts.set s t).flatten)
  | [], s, p, t, h => by simp at h
  | a :: ts, 0, p, t, h => by
    have e : a = p :: t := by simpa using h
    subst e
    exact .refl _
  | a :: ts, s + 1, p, t, h => by
    have ih := flat_set (ts := ts) (s := s) (by simpa using h)
    rw [List.set_cons_succ, List.flatten_cons, List.flatten_cons]
    exact (ih.append_left a).trans List.perm_middle
theorem hd_heads {ts : List (List Pr)} {j : Nat} {q : Pr} : hd (ts.map List.head?) j = some q ↔ ∃ r, ts[j]? = some (q :: r) := by
  unfold hd
  rw [List.getD_eq_getElem?_getD, List.getElem?_map]
  cases ts[j]? with
  | none => simp
  | some t =>
    cases t with
    | nil => simp
    | cons a t => simp
structure Mg (ks : List Str) (o : Ord) (found : List Pr) (ts : List (List Pr)) : Prop where
  fine : Fine ks (found ++ ts.flatten)
  up : Up o found
  ups : ∀ t ∈ ts, Up o t
  cross : ∀ x ∈ found, ∀ y ∈ ts.flatten, before o x y = true
theorem Mg.step {ks : List Str} {o : Ord} (ho : ∀ t ∈ o, t.1 < ks.length) {found : List Pr} {ts : List (List Pr)} (M : Mg ks o found ts) {s : Nat} {p : Pr} {t : List Pr} (h : ts[s]? = some (p :: t)) (low : ∀ j q, hd (ts.map List.head?) j = some q → before o q p = false) : Mg ks o (found ++ [p]) (ts.set s t) := by
  have pm := flat_set h
  have pm2 : ((found ++ [p]) ++ (ts.set s t).flatten).Perm (found ++ ts.flatten) := by
    rw [List.append_assoc]
    exact List.Perm.append_left _ pm.symm
  have fine2 := M.fine.perm pm2
  have sub : ∀ y ∈ (ts.set s t).flatten, y ∈ ts.flatten := fun y hy => pm.mem_iff.mpr (List.mem_cons_of_mem _ hy)
  have pin : p ∈ ts.flatten := pm.mem_iff.mpr (List.mem_cons_self ..)
  have ptm : (p :: t) ∈ ts := List.mem_of_getElem? h
  have upt := M.ups _ ptm
  have ne : ∀ y ∈ (ts.set s t).flatten, p.1 ≠ y.1 := fun y hy => by
    have nd := fine2.nd
    exact nodup_ne (xs := found ++ [p]) nd (by simp) hy
  have row : ∀ y ∈ ts.flatten, isRow ks y.2 = true := fun y hy => M.fine.row y (List.mem_append_right _ hy)
  refine ⟨fine2, ?_, ?_, ?_⟩
  · refine List.pairwise_append.mpr ⟨M.up, by simp, fun x hx y hy => ?_⟩
    rw [List.mem_singleton] at hy
    subst hy
    exact M.cross x hx _ pin
  · intro u hu
    rcases List.mem_or_eq_of_mem_set hu with z | z
    · exact M.ups u z
    · rw [z]; exact List.Pairwise.of_cons upt
  · intro x hx y hy
    rcases List.mem_append.mp hx with z | z
    · exact M.cross x z y (sub y hy)
    · rw [List.mem_singleton] at z
      subst z
      obtain ⟨u, hu, yu⟩ := List.mem_flatten.mp hy
      obtain ⟨j, hj, ej⟩ := List.mem_iff_getElem.mp hu
      rw [List.length_set] at hj
      rw [List.getElem_set] at ej
      split at ej
      · rw [← ej] at yu
        exact List.rel_of_pairwise_cons upt yu
      · rename_i hne
        cases hu2 : u with
        | nil => rw [hu2] at yu; simp at yu
        | cons q r =>
          rw [hu2] at ej yu
          have e2 : ts[j]? = some (q :: r) := by rw [List.getElem?_eq_getElem hj, ej]
          have lowq := low j q (hd_heads.mpr ⟨r, e2⟩)
          have qin : q ∈ (ts.set s t).flatten := List.mem_flatten.mpr ⟨q :: r, by
            refine List.mem_of_getElem? (i := j) ?_
            rw [List.getElem?_set_ne hne]
            exact e2, List.mem_cons_self ..⟩
          have rq := row q (sub q qin)
          have rx := row x pin
          have b1 := after_of ho rq rx (fun e => ne q qin e.symm) lowq
          rcases List.mem_cons.mp yu with w | w
          · rw [w]; exact b1
          · have ry := row y (sub y hy)
            have uq := M.ups _ (List.mem_of_getElem? e2)
            exact before_trans o (cmp_of ho rx rq) (cmp_of ho rq ry) b1 (List.rel_of_pairwise_cons uq w)
theorem all_none {ts : List (List Pr)} (h : ∀ s, hd (ts.map List.head?) s = none) : ts.flatten = [] := by
  rw [List.flatten_eq_nil_iff]
  intro l hl
  obtain ⟨j, hj, ej⟩ := List.mem_iff_getElem.mp hl
  cases l with
  | nil => rfl
  | cons q r =>
    have := hd_heads.mpr ⟨r, (by rw [List.getElem?_eq_getElem hj, ej] : ts[j]? = some (q :: r))⟩
    rw [h j] at this
    cases this
/-- each ahead of the next: in order -/
theorem up_steps {ks : List Str} {o : Ord} (ho : ∀ t ∈ o, t.1 < ks.length) : ∀ {xs : List Pr}, (∀ p ∈ xs, isRow ks p.2 = true) → (∀ i, i + 1 < xs.length → before o (xs.getD i c0.2) (xs.getD (i + 1) c0.2) = true) → Up o xs
  | [], _, _ => .nil
  | [x], _, _ => by simp [Up]
  | x :: y :: l, hr, h => by
    have ih : Up o (y :: l) := up_steps ho (fun p hp => hr p (List.mem_cons_of_mem _ hp)) fun i hi => h (i + 1) (by simpa using hi)
    have b0 : before o x y = true := h 0 (by simp)
    refine List.pairwise_cons.mpr ⟨fun z hz => ?_, ih⟩
    rcases List.mem_cons.mp hz with e | e
    · rw [e]; exact b0
    · exact before_trans o (cmp_of ho (hr _ (by simp)) (hr _ (by simp))) (cmp_of ho (hr _ (by simp)) (hr _ (by simp [e]))) b0 (List.rel_of_pairwise_cons ih e)
theorem isRunB_up {ks : List Str} {o : Ord} (ho : ∀ t ∈ o, t.1 < ks.length) {xs : List Pr} (h : isRunB ks o xs = true) : Up o xs := by
  refine up_steps ho (isRunB_row h) fun i hi => ?_
  unfold isRunB at h
  simp only [Bool.and_eq_true, List.all_eq_true, List.mem_range] at h
  exact h.2 i (by omega)
theorem isRunB_of {ks : List Str} {o : Ord} {xs : List Pr} (u : Up o xs) (r : ∀ p ∈ xs, 0 ≤ p.1 ∧ isRow ks p.2 = true) : isRunB ks o xs = true := by
  unfold isRunB
  simp only [Bool.and_eq_true, List.all_eq_true, List.mem_range, decide_eq_true_eq]
  refine ⟨r, fun i hi => ?_⟩
  rw [getD_lt (by omega : i < xs.length), getD_lt (by omega : i + 1 < xs.length)]
  exact List.pairwise_iff_getElem.mp u i (i + 1) (by omega) (by omega) (by omega)
theorem cnt_leaf {o : Ord} {hs : Hds} {bs : List (Option Nat)} {many : Nat} {bad : Nat → Prop} (T : TreeOk o hs bs many bad) : ∀ n j, n = many - j → j ≤ many → cnt bs (many + j) ≤ hs.length - j
  | 0, j, e, h => by
    have : j = many := by omega
    subst this
    unfold cnt
    rw [List.drop_of_length_le (by rw [T.len]; omega)]
    simp
  | n + 1, j, e, h => by
    have ih := cnt_leaf T n (j + 1) (by omega) (by omega)
    rw [cnt_step (by rw [T.len]; omega), T.leaf j (by omega)]
    by_cases c : j < hs.length
    · have : (if (leafOf hs j).isSome = true then 1 else 0) ≤ 1 := by split <;> omega
      have e2 : many + j + 1 = many + (j + 1) := by omega
      rw [e2]
      omega
    · have : leafOf hs j = none := by
        unfold leafOf hd
        rw [List.getD_eq_getElem?_getD, List.getElem?_eq_none (by omega)]
        rfl
      rw [this]
      have e2 : many + j + 1 = many + (j + 1) := by omega
      rw [e2]
      simp only [Option.isSome_none, Bool.false_eq_true, if_false]
      omega
abbrev N_merged : List Str := ["kinds", "order", "runs", "places", "tree", "found", "source", "run"]
abbrev P_merged : List Str := ["kinds", "order", "runs"]
def sp_merged (K : PySem.W.Frag) : Sp := fun vs H Q E => match vs with
  | [kv, ov, rv] => ∃ ks o rs lo lr, KindsAt H kv ks ∧ GoodKinds ks ∧ ov = .ref lo ∧ Lst TurnAt H lo o ∧ GoodOrd ks o ∧ o.length ≤ 1000 ∧ rv = .ref lr ∧ Lst RunV H lr rs ∧ rs.length ≤ 40 ∧ (∀ r ∈ rs, isRunB ks o r = true) ∧ (rs.flatten.map (·.1)).Nodup ∧ rs.flatten.length ≤ 1000 ∧
    ∀ (t f : Addr) (H' : Hp) (e : Nat) (looks : Int) (ys : List Pr), H t = none → H f = none → H' t = some (.tup [.ref f, .int looks]) → Lst PairAt H' f ys → Up o ys → ys.Perm rs.flatten → 0 ≤ looks → looks ≤ ((rs.length - 1 : Nat) : Int) + (e : Int) * (rs.flatten.length : Int) → rs.length ≤ 2 ^ e → (e = 0 ∨ 2 ^ e < 2 * rs.length) → Same H H' → Q (.ref t) H'
  | _ => False
def t_merged (K : PySem.W.Frag) (E : XK) : TS := (tSeq (tDrop (tCall (sp_need_kinds K) [] E (tCons (tVar 0) tNil)))
  (tSeq (tDrop (tCall (sp_need_order K) [] E (tCons (tVar 0) (tCons (tVar 1) tNil))))
   (tSeq (tDrop (tCall (sp_need_runs K) [] E (tCons (tVar 0) (tCons (tVar 1) (tCons (tVar 2) tNil)))))
    (tSeq (tAsg (tLc (iList K (tVar 2)) (gName 7) tYes (tC (.int 0)) [7]) (gName 3))
     (tSeq (tAsg (tMake (He.ga K "Tree") (sp_Tree___init__ K) [] E (tCons (tCB1 (xList K) (tVar 1)) (tCons (tLc (iList K (tVar 2)) (gName 7) tYes (tIf (tTest (tOp (xNeE K) (tVar 7) (tLst tNil))) (tOpC (rIxL K) (tVar 7) (.int 0)) (tC .non)) [7]) tNil))) (gName 4))
      (tSeq (tAsg (tLst tNil) (gName 5))
       (tSeq (tAsg (tIf (tTest (tOp (xNeE K) (tVar 2) (tLst tNil))) (tMeth (He.ga K "Tree") "first" (sp_Tree_first K) [] E (tVar 4) tNil) (tC .non)) (gName 6))
        (tSeq (tWhile (tTest (tOpC rNotN (tVar 6) .non)) 
           (tSeq (tDrop (tBM K "list" rAppend (tVar 5) (tCons (tOp (rIxL K) (tFl K (tVar 4) "heads") (tVar 6)) tNil)))
           (tSeq (tAugL K (tVar 3) (tVar 6) (tC (.int 1)))
            (tSeq (tAsg (tOp (rIxL K) (tVar 2) (tVar 6)) (gName 7))
             (tSeq (tDrop (tMeth (He.ga K "Tree") "turn" (sp_Tree_turn K) [] E (tVar 4) (tCons (tVar 6) (tCons (tIf (tTest (tOp xLt (tOp (rIxL K) (tVar 3) (tVar 6)) (tCB1 (xLen K) (tVar 7)))) (tOp (rIxL K) (tVar 7) (tOp (rIxL K) (tVar 3) (tVar 6))) (tC .non)) tNil))))
              (tAsg (tMeth (He.ga K "Tree") "first" (sp_Tree_first K) [] E (tVar 4) tNil) (gName 6)))))))
         (tRet (tTup (tCons (tVar 5) (tCons (tFl K (tVar 4) "looks") tNil))))))))))))
def MgInv (K : PySem.W.Frag) (H : Hp) (ks : List Str) (o : Ord) (rs : List (List Pr)) (kv : V) (lo lr lp p lo2 lh lb lf : Addr) (e : Nat) (looks : Int) (b : Nat → Prop) (σ : L2.St) (H' : Hp) : Prop :=
  ∃ (ts : List (List Pr)) (pl : List Nat) (found : List Pr) (bs : List (Option Nat)) (lks : Int) (v6 : V) (x7 : Option V), b ts.flatten.length ∧ σ = [some kv, some (.ref lo), some (.ref lr), some (.ref lp), some (.ref p), some (.ref lf), some v6, x7] ∧ Same H H' ∧ H' lp = some (.lst (pl.map fun (n : Nat) => V.int (n : Int))) ∧
          TreeS K H' p lo2 lh lb o (ts.map List.head?) bs (2 ^ e) lks ∧ TreeOk o (ts.map List.head?) bs (2 ^ e) (fun _ => False) ∧ NatAt H' v6 (bst bs 1) ∧ Lst PairAt H' lf found ∧ Mg ks o found ts ∧ (found ++ ts.flatten).Perm rs.flatten ∧ ts.length = rs.length ∧ pl.length = rs.length ∧ (∀ s, ts.getD s [] = (rs.getD s []).drop (pl.getD s 0)) ∧ looks ≤ lks ∧ lks ≤ looks + (e : Int) * (found.length : Int)
theorem heads_set {ts : List (List Pr)} {s : Nat} {t : List Pr} : (ts.set s t).map List.head? = (ts.map List.head?).set s t.head? := by rw [List.map_set]
theorem pure_merged {K : PySem.W.Frag} (T : TxtTree K) : ∀ vs H Q E, sp_merged K vs H Q E → t_merged K E { nx := fun _ H' => Q .non H', rt := Q } (start N_merged vs) H := by
  intro vs H Q E h
  match vs, h with
  | [kv, ov, rv], h =>
    obtain ⟨ks, o, rs, lo, lr, hk, gk, rfl, Lo, go, hol, rfl, Lr, hrl, good, nd, hlen, k⟩ := h
    have hcol := go.col
    refine ⟨_, rfl, ks, hk, gk, fun H1 s1 => ?_⟩
    refine ⟨_, rfl, _, rfl, ks, o, hk.mono (TupLe.same s1), ⟨lo, rfl, Lo.same TurnAt.st s1⟩, go, hol, fun H2 s2 => ?_⟩
    have s02 := s1.trans s2
    refine ⟨_, rfl, _, rfl, _, rfl, ks, o, rs, lo, lr, hk.mono (TupLe.same s02), gk.le, rfl, Lo.same TurnAt.st s02, hcol, rfl, runs_same s02 Lr, hrl, good, nd, hlen, fun H3 s3 => ?_⟩
    have s03 := s02.trans s3
    clear s1 s2 s3 s02
    obtain ⟨xv, ex, px⟩ := id Lr
    have lx := px.length
    -- places
    refine ⟨_, rfl, lr, rfl, ⟨_, SqL.of (s03 _ _ ex)⟩, fun lp hlp => ?_⟩
    refine lc_list (K := K) (a := lr) (xs := xv) (fun j H' => H' lp = some (.lst ((List.replicate j 0).map fun (n : Nat) => V.int (n : Int))) ∧ Same H3 H') ⟨upd_same, Rs.Same.new hlp⟩ ?_ ?_ ?_
    · rintro j H' _ ⟨_, s⟩
      exact SqL.of ((s03.trans s) _ _ ex)
    · rintro j v H' hj ⟨hd, s⟩
      have := (List.getElem?_eq_some_iff.mp hj).1
      refine ⟨rfl, lc_yes ⟨_, hd, szlt (by simp; omega), ?_, Rs.Same.mut s hlp⟩⟩
      rw [upd_same, List.replicate_succ', List.map_append]
      rfl
    rintro H4 ⟨ep4, s4⟩
    have s04 := s03.trans s4
    have hlp0 : H lp = none := s03.free hlp
    clear s03 s4 hlp
    -- the tree
    obtain ⟨ov, eo, po⟩ := id Lo
    refine ⟨_, rfl, lo, _, rfl, .inl (SqL.of (s04 _ _ eo)), fun lo2 hlo2 => ?_⟩
    have s45 : Same H4 (upd H4 lo2 (.lst ov)) := Rs.Same.new hlo2
    have eo5 : upd H4 lo2 (.lst ov) lo2 = some (.lst ov) := upd_same
    have nlp1 : lp ≠ lo2 := ne_of_none ep4 hlo2
    have hlo20 : H lo2 = none := s04.free hlo2
    have ep5 := s45 _ _ ep4
    have s05 := s04.trans s45
    generalize upd H4 lo2 (.lst ov) = H5 at s45 eo5 ep5 s05 ⊢
    refine ⟨_, rfl, lr, rfl, ⟨_, SqL.of (s05 _ _ ex)⟩, fun lq hlq => ?_⟩
    refine lc_list (K := K) (a := lr) (xs := xv) (fun j H' => Lst OptAt H' lq ((rs.take j).map List.head?) ∧ Same H5 H') ⟨⟨[], upd_same, .nil⟩, Rs.Same.new hlq⟩ ?_ ?_ ?_
    · rintro j H' _ ⟨_, s⟩
      exact SqL.of ((s05.trans s) _ _ ex)
    · rintro j v H' hj ⟨⟨av, ea, pa⟩, s⟩
      obtain ⟨r, hr, l, rfl, rv, er, pr⟩ := P2.get px hj
      have la := pa.length
      have hjl := (List.getElem?_eq_some_iff.mp hr).1
      rw [List.length_map, List.length_take] at la
      have s0 := s05.trans s
      have er' := s0 _ _ er
      have put : ∀ (y : V) (H6 : Hp), Same H' H6 → OptAt H6 y r.head? → ∃ acc, H6 lq = some (.lst acc) ∧ acc.length < sizeLine ∧ (Lst OptAt (upd H6 lq (.lst (acc ++ [y]))) lq ((rs.take (j + 1)).map List.head?) ∧ Same H5 (upd H6 lq (.lst (acc ++ [y])))) := fun y H6 s6 hy => by
        have e6 := s6 _ _ ea
        have t6 : TupLe H6 (upd H6 lq (.lst (av ++ [y]))) := (TupLe.refl H6).list e6
        refine ⟨av, e6, szlt (by omega), ⟨_, upd_same, ?_⟩, Rs.Same.mut (s.trans s6) hlq⟩
        rw [List.take_succ, hr, List.map_append]
        exact P2.app (Paired.tl OptAt.st ((TupLe.same s6).trans (t6)) pa) (P2.one (OptAt.st _ _ _ _ t6 hy))
      refine ⟨rfl, lc_yes ?_⟩
      refine ⟨_, rfl, sz0, fun e he => neE er' he (b := !rv.isEmpty) rfl ⟨_, rfl, ?_⟩⟩
      have se : Same H' (upd H' e (.lst [])) := Rs.Same.new he
      cases rv with
      | nil =>
        cases pr
        exact put .non _ se rfl
      | cons v0 rv =>
        cases pr with
        | cons q1 q2 =>
          exact ⟨_, rfl, ixL (se _ _ er') (j := 0) rfl rfl (put v0 _ se (PairAt.st _ _ _ _ ((TupLe.same s0).trans (TupLe.same se)) q1))⟩
    rintro H6 ⟨Lq, s6⟩
    rw [List.take_of_length_le (by omega)] at Lq
    have s06 := s05.trans s6
    have ep6 := s6 _ _ ep5
    have eo6 := s6 _ _ eo5
    have hlq0 : H lq = none := s05.free hlq
    clear s45 s6 s05 ep5 eo5 ep4 s04
    refine fun p dx hp hdx ndx => ?_
    have s7 : Same H6 (upd (upd H6 dx (.own p)) p (.ins (He.ga K "Tree") dx [])) := (Rs.Same.new hdx).trans (Rs.Same.new (by rw [upd_ne ndx.symm]; exact hp))
    have ep7 : upd (upd H6 dx (.own p)) p (.ins (He.ga K "Tree") dx []) p = some (.ins (He.ga K "Tree") dx []) := upd_same
    have s07 := s06.trans s7
    have hp0 : H p = none := s06.free hp
    have npl : lp ≠ p := ne_of_none ep6 hp
    have epl7 := s7 _ _ ep6
    have eo7 := s7 _ _ eo6
    have Lq7 := Lq.same OptAt.st s7
    generalize upd (upd H6 dx (.own p)) p (.ins (He.ga K "Tree") dx []) = H7 at s7 ep7 s07 epl7 eo7 Lq7 ⊢
    have fin : Fine ks rs.flatten := ⟨fun q hq => by
      obtain ⟨r, hr, hqr⟩ := List.mem_flatten.mp hq
      exact isRunB_row (good r hr) q hqr, nd⟩
    have hok : ∀ (ts : List (List Pr)), (∀ q ∈ ts.flatten, isRow ks q.2 = true) → ∀ s q, hd (ts.map List.head?) s = some q → isRow ks q.2 = true := fun ts hts s q hq => by
      obtain ⟨r, hr⟩ := hd_heads.mp hq
      exact hts q (List.mem_flatten.mpr ⟨_, List.mem_of_getElem? hr, List.mem_cons_self ..⟩)
    refine ⟨p, dx, lo2, o, lq, _, ks, rfl, rfl, rfl, ep7, ⟨ov, eo7, Paired.tl TurnAt.st (TupLe.same s07) po⟩, Lq7, by rw [List.length_map]; omega, hcol, hok rs fin.row, fun lh lb bs e looks H8 S8 T8 hle he hlk hlh hlb k8 => ⟨rfl, ?_⟩⟩
    rw [List.length_map] at hle he
    have s08 : Same H H8 := k8.fresh s07 fun x hx => by rw [List.mem_singleton] at hx; rw [hx]; exact hp0
    have epl8 := k8 _ _ epl7 (ne1 npl)
    have n1 : lp ≠ lh := ne_of_none epl7 hlh
    have n2 : lp ≠ lb := ne_of_none epl7 hlb
    have hlh0 : H lh = none := s07.free hlh
    have hlb0 : H lb = none := s07.free hlb
    clear k8 epl7 eo7 Lq7 ep7 s07 s7 eo6 ep6 s06 Lq hp hdx ndx hlh hlb
    -- found
    refine ⟨sz0, fun lf hlf => ?_⟩
    have s9 : Same H8 (upd H8 lf (.lst [])) := Rs.Same.new hlf
    have ef9 : upd H8 lf (.lst []) lf = some (.lst []) := upd_same
    have S9 := S8.same s9
    have epl9 := s9 _ _ epl8
    have s09 := s08.trans s9
    have hlf0 : H lf = none := s08.free hlf
    have f1 : lp ≠ lf := ne_of_none epl8 hlf
    have f2 : p ≠ lf := by obtain ⟨d, q⟩ := S8.ob; exact ne_of_none q hlf
    have f3 : lo2 ≠ lf := by obtain ⟨_, q, _⟩ := S8.ord; exact ne_of_none q hlf
    have f4 : lh ≠ lf := by obtain ⟨_, q, _⟩ := S8.heads; exact ne_of_none q hlf
    have f5 : lb ≠ lf := by obtain ⟨_, q, _⟩ := S8.best; exact ne_of_none q hlf
    generalize upd H8 lf (.lst []) = H9 at s9 ef9 S9 epl9 s09 ⊢
    have e1 : 1 ≤ 2 ^ e := Nat.one_le_two_pow
    -- the loop
    have loop : ∀ (v6 : V) (H10 : Hp), Same H9 H10 → NatAt H10 v6 (bst bs 1) → (tSeq (tWhile (tTest (tOpC rNotN (tVar 6) .non)) 
           (tSeq (tDrop (tBM K "list" rAppend (tVar 5) (tCons (tOp (rIxL K) (tFl K (tVar 4) "heads") (tVar 6)) tNil)))
           (tSeq (tAugL K (tVar 3) (tVar 6) (tC (.int 1)))
            (tSeq (tAsg (tOp (rIxL K) (tVar 2) (tVar 6)) (gName 7))
             (tSeq (tDrop (tMeth (He.ga K "Tree") "turn" (sp_Tree_turn K) [] E (tVar 4) (tCons (tVar 6) (tCons (tIf (tTest (tOp xLt (tOp (rIxL K) (tVar 3) (tVar 6)) (tCB1 (xLen K) (tVar 7)))) (tOp (rIxL K) (tVar 7) (tOp (rIxL K) (tVar 3) (tVar 6))) (tC .non)) tNil))))
              (tAsg (tMeth (He.ga K "Tree") "first" (sp_Tree_first K) [] E (tVar 4) tNil) (gName 6)))))))
         (tRet (tTup (tCons (tVar 5) (tCons (tFl K (tVar 4) "looks") tNil))))) { nx := fun _ H' => Q .non H', rt := Q } [some kv, some (.ref lo), some (.ref lr), some (.ref lp), some (.ref p), some (.ref lf), some v6, none] H10 := fun v6 H10 s10 hv6 => by
      refine ⟨fun m => MgInv K H ks o rs kv lo lr lp p lo2 lh lb lf e looks fun n => m = n,
        ⟨_, rs, List.replicate xv.length 0, [], bs, looks, v6, none, rfl, rfl, s09.trans s10, s10 _ _ epl9, S9.same s10, T8, hv6, ⟨[], s10 _ _ ef9, .nil⟩, ⟨by rw [List.nil_append]; exact fin, .nil, fun t ht => isRunB_up hcol (good t ht), fun x hx => by simp at hx⟩, by rw [List.nil_append], rfl, by rw [List.length_replicate]; omega, fun s => by
          have : (List.replicate xv.length 0).getD s 0 = 0 := by
            rw [List.getD_eq_getElem?_getD, List.getElem?_replicate]
            split <;> rfl
          rw [this, List.drop_zero], Int.le_refl _, by simp⟩, ?_⟩
      rintro m σ H11 ⟨ts, pl, found, bs1, lks, v6, x7, rfl, rfl, s11, ep11, S11, T11, hv11, Lf11, M11, pm11, tl11, pl11, rel, lk1, lk2⟩
      have rows11 : ∀ q ∈ ts.flatten, isRow ks q.2 = true := fun q hq => M11.fine.row q (List.mem_append_right _ hq)
      have top := tree_top hcol (hok ts rows11) T11 (by rw [List.length_map, tl11]; exact hle)
      have plen := pm11.length_eq
      rw [List.length_append] at plen
      refine ⟨_, rfl, rfl, _, rfl, ?_⟩
      cases hb1 : bst bs1 1 with
      | none =>
        rw [hb1] at hv11
        have ev : v6 = .non := hv11
        subst ev
        have en := all_none (top.1 hb1)
        rw [en, List.append_nil] at pm11
        refine ⟨_, rfl, _, rfl, g_Tree_looks T S11.ob ⟨szle (by show 2 ≤ 100000; decide), fun t ht => ?_⟩⟩
        have s12 : Same H11 (upd H11 t (.tup [.ref lf, .int lks])) := Rs.Same.new ht
        have cl := cnt_leaf T8 (2 ^ e) 0 rfl (Nat.zero_le _)
        rw [Nat.add_zero, List.length_map, Nat.sub_zero] at cl
        have c0' : 0 ≤ looks ∧ looks ≤ ((rs.length - 1 : Nat) : Int) := by
          rw [hlk]
          cases hq : bst bs 1 with
          | none =>
            have z := (tree_top hcol (hok rs fin.row) T8 (by rw [List.length_map]; exact hle)).1 hq
            have en := all_none z
            have : cnt bs (2 ^ e) = 0 := by
              have : ∀ n j, n = 2 ^ e - j → j ≤ 2 ^ e → cnt bs (2 ^ e + j) = 0 := by
                intro n
                induction n with
                | zero =>
                  intro j e1 e2
                  have : j = 2 ^ e := by omega
                  subst this
                  unfold cnt
                  rw [List.drop_of_length_le (by rw [T8.len]; omega)]
                  rfl
                | succ n ih =>
                  intro j e1 e2
                  rw [cnt_step (by rw [T8.len]; omega), T8.leaf j (by omega)]
                  have : leafOf (rs.map List.head?) j = none := by unfold leafOf; rw [z j]; rfl
                  rw [this, show 2 ^ e + j + 1 = 2 ^ e + (j + 1) by omega, ih (j + 1) (by omega) (by omega)]
                  rfl
              exact this _ 0 rfl (Nat.zero_le _)
            rw [this]
            simp
          | some t =>
            have a := T8.len
            have c1 : 1 ≤ cnt bs (2 ^ e) := by
              obtain ⟨h1, h2⟩ := tree_some T8 _ 1 rfl (Nat.le_refl _) (by omega) t hq
              have key : ∀ n j, n = t - j → j ≤ t → 1 ≤ cnt bs (2 ^ e + j) := by
                intro n
                induction n with
                | zero =>
                  intro j e1 e2
                  have : j = t := by omega
                  subst this
                  rw [cnt_step (by rw [T8.len]; omega), T8.leaf j h2]
                  unfold leafOf
                  rw [if_pos h1]
                  simp only [Option.isSome_some, if_true]
                  omega
                | succ n ih =>
                  intro j e1 e2
                  have := ih (j + 1) (by omega) (by omega)
                  rw [cnt_step (by rw [T8.len]; omega), show 2 ^ e + j + 1 = 2 ^ e + (j + 1) by omega]
                  omega
              exact key _ 0 rfl (Nat.zero_le _)
            simp only [Option.isSome_some, if_true]
            omega
        have fl : found.length = rs.flatten.length := by rw [en] at plen; simpa using plen
        rw [fl] at lk2
        exact k t lf _ e lks found (s11.free ht) hlf0 upd_same (Lf11.same PairAt.st s12) M11.up pm11 (by omega) (by omega) hle he (s11.trans s12)
      | some s =>
        rw [hb1] at hv11
        have ev : v6 = .int ((s : Nat) : Int) := hv11
        subst ev
        obtain ⟨q, hq, low⟩ := top.2 s hb1
        obtain ⟨t', ht'⟩ := hd_heads.mp hq
        have sl : s < rs.length := by rw [← tl11]; exact (List.getElem?_eq_some_iff.mp ht').1
        refine ⟨MgInv K H ks o rs kv lo lr lp p lo2 lh lb lf e looks fun n => n < ts.flatten.length, ?_, ?_⟩
        · rintro σ H' ⟨ts', pl, found, bs, lks, v6, x7, a1, a2⟩
          exact ⟨_, a1, ts', pl, found, bs, lks, v6, x7, rfl, a2⟩
        obtain ⟨hv, eh, ph⟩ := S11.heads
        obtain ⟨vq, gq, aq⟩ := P2.get' ph (i := s) (b := some q) (by rw [List.getElem?_map, ht']; rfl)
        have aq : PairAt H11 vq q := aq
        obtain ⟨fv, ef, pf⟩ := Lf11
        have lfl := pf.length
        -- found.append
        refine ⟨_, rfl, .inl ⟨rfl, _, SqL.of ef⟩, _, rfl, g_Tree_heads T S11.ob ⟨_, rfl, ixL eh rfl gq ⟨_, _, _, rfl, rfl, ef, szlt (by omega), ?_⟩⟩⟩
        have t12 : TupLe H11 (upd H11 lf (.lst (fv ++ [vq]))) := (TupLe.refl H11).list ef
        have k12 : But [lf] H11 (upd H11 lf (.lst (fv ++ [vq]))) := (But.refl _ H11).put (by simp)
        have S12 := S11.keep t12 (by
          rintro b (rfl | rfl | rfl | rfl) u hu
          · exact up hu f2
          · exact up hu f3
          · exact up hu f4
          · exact up hu f5)
        have Lf12 : Lst PairAt (upd H11 lf (.lst (fv ++ [vq]))) lf (found ++ [q]) := ⟨_, upd_same, P2.app (Paired.tl PairAt.st t12 pf) (P2.one (PairAt.st _ _ _ _ t12 aq))⟩
        have ep12 := up (u := .lst (fv ++ [vq])) ep11 f1
        have s12 : Same H (upd H11 lf (.lst (fv ++ [vq]))) := k12.fresh s11 fun x hx => by rw [List.mem_singleton] at hx; rw [hx]; exact hlf0
        generalize upd H11 lf (.lst (fv ++ [vq])) = H12 at t12 k12 S12 Lf12 ep12 s12 ⊢
        clear ef pf eh ph gq aq lfl
        -- places[source] += 1
        have pls : pl[s]? = some (pl.getD s 0) := by rw [List.getD_eq_getElem?_getD, List.getElem?_eq_getElem (by omega)]; rfl
        refine ⟨_, rfl, _, rfl, lp, _, s, _, rfl, rfl, SqL.of ep12, by rw [List.getElem?_map, pls]; rfl, _, _, rfl, rfl, lp, _, _, s, rfl, rfl, ep12, ixN_nat (by rw [List.length_map]; omega), ?_⟩
        have em : (pl.map fun (n : Nat) => V.int (n : Int)).set s (.int (((pl.getD s 0 : Nat) : Int) + 1)) = (pl.set s (pl.getD s 0 + 1)).map fun (n : Nat) => V.int (n : Int) := by
          rw [List.map_set]
          rfl
        dsimp only
        rw [em]
        have k13 : But [lp] H12 (upd H12 lp (.lst ((pl.set s (pl.getD s 0 + 1)).map fun (n : Nat) => V.int (n : Int)))) := (But.refl _ H12).put (by simp)
        have t13 : TupLe H12 (upd H12 lp (.lst ((pl.set s (pl.getD s 0 + 1)).map fun (n : Nat) => V.int (n : Int)))) := (TupLe.refl H12).list ep12
        have S13 := S12.keep t13 (by
          rintro b (rfl | rfl | rfl | rfl) u hu
          · exact up hu npl.symm
          · exact up hu nlp1.symm
          · exact up hu n1.symm
          · exact up hu n2.symm)
        have Lf13 := Lf12.keep PairAt.st t13 fun u hu => up hu f1.symm
        have ep13 : upd H12 lp (.lst ((pl.set s (pl.getD s 0 + 1)).map fun (n : Nat) => V.int (n : Int))) lp = some _ := upd_same
        have s13 : Same H (upd H12 lp (.lst ((pl.set s (pl.getD s 0 + 1)).map fun (n : Nat) => V.int (n : Int)))) := k13.fresh s12 fun x hx => by rw [List.mem_singleton] at hx; rw [hx]; exact hlp0
        generalize upd H12 lp (.lst ((pl.set s (pl.getD s 0 + 1)).map fun (n : Nat) => V.int (n : Int))) = H13 at k13 t13 S13 Lf13 ep13 s13 ⊢
        clear S12 Lf12 ep12 em k12 t12 S11 ep11
        -- run
        obtain ⟨rv, hrv, l, rfl, wv, ew, pw⟩ := P2.get' px (List.getElem?_eq_getElem sl)
        have lw := pw.length
        have rsD : rs.getD s [] = rs[s] := getD_lt sl
        have tsD : ts.getD s [] = q :: t' := by rw [List.getD_eq_getElem?_getD, ht']; rfl
        have rels := rel s
        rw [tsD, rsD] at rels
        refine ⟨_, rfl, _, rfl, ixL (s13 _ _ ex) rfl hrv ?_⟩
        obtain ⟨dx, hob⟩ := S13.ob
        have plx : (pl.set s (pl.getD s 0 + 1))[s]? = some (pl.getD s 0 + 1) := by rw [List.getElem?_set_self (by omega)]
        have plx' : ((pl.set s (pl.getD s 0 + 1)).map fun (n : Nat) => V.int (n : Int))[s]? = some (.int ((pl.getD s 0 + 1 : Nat) : Int)) := by rw [List.getElem?_map, plx]; rfl
        refine ⟨_, rfl, p, dx, _, rfl, hob, no_Tree_turn, _, rfl, _, rfl, _, rfl, ixL ep13 rfl plx' ⟨_, rfl, lenL (s13 _ _ ew) rfl ⟨_, _, rfl, rfl, _, rfl, ?_⟩⟩⟩
        have tl' : t' = rs[s].drop (pl.getD s 0 + 1) := by
          have : (q :: t').drop 1 = (rs[s].drop (pl.getD s 0)).drop 1 := by rw [rels]
          rw [List.drop_drop] at this
          simpa using this
        have M12 := M11.step hcol ht' low
        have rows12 : ∀ x ∈ (ts.set s t').flatten, isRow ks x.2 = true := fun x hx => M12.fine.row x (List.mem_append_right _ hx)
        have pm12 : ((found ++ [q]) ++ (ts.set s t').flatten).Perm rs.flatten := by
          rw [List.append_assoc]
          exact (List.Perm.append_left found (flat_set ht').symm).trans pm11
        have flt := (flat_set ht').length_eq
        rw [List.length_cons] at flt
        -- the tree turns
        have turn : ∀ (v : V), OptAt H13 v t'.head? → sp_Tree_turn K [.ref p, .int (s : Int), v] H13 (fun _ H' => (tAsg (tMeth (He.ga K "Tree") "first" (sp_Tree_first K) [] E (tVar 4) tNil) (gName 6)) { nx := MgInv K H ks o rs kv lo lr lp p lo2 lh lb lf e looks fun n => n < ts.flatten.length, rt := Q } [some kv, some (.ref lo), some (.ref lr), some (.ref lp), some (.ref p), some (.ref lf), some (.int (s : Int)), some (.ref l)] H') E := fun v hv => by
          refine ⟨p, lo2, lh, lb, o, _, bs1, e, lks, ks, s, t'.head?, rfl, rfl, hv, S13, T11, hcol, hok ts rows11, fun x hx => ?_, by rw [List.length_map]; omega, by rw [List.length_map]; omega, fun bs' lks' H14 S14 T14 q1 q2 k14 => ?_⟩
          · have : hd ((ts.set s t').map List.head?) s = some x := by
              rw [heads_set]
              unfold hd
              rw [getD_set _ (by rw [List.length_map]; omega), if_pos rfl]
              exact hx
            exact hok _ rows12 s x this
          rw [← heads_set] at S14 T14
          obtain ⟨dx4, hob4⟩ := S14.ob
          have t14 := S13.tup k14
          refine ⟨_, rfl, p, dx4, _, rfl, hob4, no_Tree_first, p, lo2, lh, lb, o, _, bs', 2 ^ e, lks', rfl, S14, T14.len, e1, fun v6 hv6 => ?_⟩
          refine ⟨ts.set s t', pl.set s (pl.getD s 0 + 1), found ++ [q], bs', lks', v6, _, by omega, rfl, k14.fresh s13 (all3 hp0 hlh0 hlb0), k14 _ _ ep13 (ne3 npl n1 n2), S14, T14, hv6, Lf13.keep PairAt.st t14 fun u hu => k14 _ _ hu (ne3 f2.symm f4.symm f5.symm), M12, pm12, by rw [List.length_set]; exact tl11, by rw [List.length_set]; exact pl11, fun j => ?_, by omega, ?_⟩
          · rw [getD_set _ (by omega), getD_set _ (by omega)]
            by_cases ej : j = s
            · rw [if_pos ej, if_pos ej, ej, rsD]
              exact tl'
            · rw [if_neg ej, if_neg ej]
              exact rel j
          · rw [List.length_append, List.length_singleton]
            have : (e : Int) * ((found.length + 1 : Nat) : Int) = (e : Int) * (found.length : Int) + e := by
              rw [Int.natCast_add, Int.mul_add]
              simp
            rw [this]
            omega
        by_cases hlt : (((pl.getD s 0 + 1 : Nat) : Int) < (wv.length : Int))
        · rw [decide_eq_true hlt]
          obtain ⟨w, hw, aw⟩ := P2.get' pw (List.getElem?_eq_getElem (by omega : pl.getD s 0 + 1 < rs[s].length))
          refine ⟨_, rfl, _, rfl, _, rfl, ixL ep13 rfl plx' (ixL (s13 _ _ ew) rfl hw (turn w ?_))⟩
          have : t'.head? = some (rs[s][pl.getD s 0 + 1]'(by omega)) := by
            rw [tl', List.head?_drop, List.getElem?_eq_getElem]
          rw [this]
          exact PairAt.st _ _ _ _ (TupLe.same s13) aw
        · rw [decide_eq_false hlt]
          refine turn .non ?_
          have : t'.head? = none := by
            rw [tl', List.head?_drop, List.getElem?_eq_none (by omega)]
          rw [this]
          rfl
    refine ⟨_, rfl, sz0, fun em hem => neE (s09 _ _ ex) hem (b := !xv.isEmpty) rfl ⟨_, rfl, ?_⟩⟩
    have s10 : Same H9 (upd H9 em (.lst [])) := Rs.Same.new hem
    cases hxv : xv with
    | nil =>
      refine loop .non _ s10 ?_
      have hr0 : rs = [] := List.eq_nil_of_length_eq_zero (by rw [← lx, hxv]; rfl)
      have tt := (tree_top hcol (hok rs fin.row) T8 (by rw [List.length_map]; exact hle)).2
      cases hq : bst bs 1 with
      | none => rfl
      | some t =>
        obtain ⟨z, hz, _⟩ := tt t hq
        rw [hr0] at hz
        simp [hd] at hz
    | cons v0 xv' =>
      have S10 := S9.same s10
      obtain ⟨dx4, hob4⟩ := S10.ob
      exact ⟨_, rfl, p, dx4, _, rfl, hob4, no_Tree_first, p, lo2, lh, lb, o, _, bs, 2 ^ e, looks, rfl, S10, T8.len, e1, fun v hv => loop v _ s10 hv⟩
end Rs

namespace Rs
open PySem PySem.Spec PyProof.Rows L2
structure TxtSieve (K : PySem.W.Frag) : Prop where
  cl : Cls K (He.ga K "Sieve")
  n_kinds : NoAttr K (He.ga K "Sieve") "kinds"
  n_room : NoAttr K (He.ga K "Sieve") "room"
  n_many : NoAttr K (He.ga K "Sieve") "many"
def f_Sieve (x0 x1 x2 : V) : List (Str × V) := [(("kinds" : Str), x0), (("room" : Str), x1), (("many" : Str), x2)]
def SieveOb (K : PySem.W.Frag) (H : Hp) (p : Addr) (x0 x1 x2 : V) : Prop := ∃ dx, H p = some (.ins (He.ga K "Sieve") dx (f_Sieve x0 x1 x2))
section
variable {K : PySem.W.Frag} {x0 x1 x2 y : V} {H : Hp} {Q : VK} {p : Addr} {D : Ends} {σ : L2.St}
theorem fl_Sieve_kinds : (f_Sieve x0 x1 x2).lookup ("kinds" : Str) = some x0 := by
  unfold f_Sieve
  rw [lk_hd]
theorem pf_Sieve_kinds : putF "kinds" y (f_Sieve x0 x1 x2) = f_Sieve y x1 x2 := by
  unfold f_Sieve
  rw [put_hd]
theorem g_Sieve_kinds (T : TxtSieve K) (h : SieveOb K H p x0 x1 x2) (q : Q x0 H) : rFld K "kinds" (.ref p) H Q := let ⟨dx, h⟩ := h; ⟨p, _, dx, _, _, rfl, h, T.cl, T.n_kinds, fl_Sieve_kinds, q⟩
theorem s_Sieve_kinds (T : TxtSieve K) (h : SieveOb K H p x0 x1 x2) (q : ∀ dx, H p = some (.ins (He.ga K "Sieve") dx (f_Sieve x0 x1 x2)) → D.nx σ (upd H p (.ins (He.ga K "Sieve") dx (f_Sieve y x1 x2)))) : rSFl K "kinds" (.ref p) y D σ H := by
  obtain ⟨dx, h⟩ := h
  refine ⟨p, _, dx, _, rfl, h, T.cl, T.n_kinds, by show 3 < 1000; decide, ?_⟩
  rw [pf_Sieve_kinds]
  exact q dx h
theorem fl_Sieve_room : (f_Sieve x0 x1 x2).lookup ("room" : Str) = some x1 := by
  unfold f_Sieve
  rw [lk_tl (by decide +kernel), lk_hd]
theorem pf_Sieve_room : putF "room" y (f_Sieve x0 x1 x2) = f_Sieve x0 y x2 := by
  unfold f_Sieve
  rw [put_tl (by decide +kernel), put_hd]
theorem g_Sieve_room (T : TxtSieve K) (h : SieveOb K H p x0 x1 x2) (q : Q x1 H) : rFld K "room" (.ref p) H Q := let ⟨dx, h⟩ := h; ⟨p, _, dx, _, _, rfl, h, T.cl, T.n_room, fl_Sieve_room, q⟩
theorem s_Sieve_room (T : TxtSieve K) (h : SieveOb K H p x0 x1 x2) (q : ∀ dx, H p = some (.ins (He.ga K "Sieve") dx (f_Sieve x0 x1 x2)) → D.nx σ (upd H p (.ins (He.ga K "Sieve") dx (f_Sieve x0 y x2)))) : rSFl K "room" (.ref p) y D σ H := by
  obtain ⟨dx, h⟩ := h
  refine ⟨p, _, dx, _, rfl, h, T.cl, T.n_room, by show 3 < 1000; decide, ?_⟩
  rw [pf_Sieve_room]
  exact q dx h
theorem fl_Sieve_many : (f_Sieve x0 x1 x2).lookup ("many" : Str) = some x2 := by
  unfold f_Sieve
  rw [lk_tl (by decide +kernel), lk_tl (by decide +kernel), lk_hd]
theorem pf_Sieve_many : putF "many" y (f_Sieve x0 x1 x2) = f_Sieve x0 x1 y := by
  unfold f_Sieve
  rw [put_tl (by decide +kernel), put_tl (by decide +kernel), put_hd]
theorem g_Sieve_many (T : TxtSieve K) (h : SieveOb K H p x0 x1 x2) (q : Q x2 H) : rFld K "many" (.ref p) H Q := let ⟨dx, h⟩ := h; ⟨p, _, dx, _, _, rfl, h, T.cl, T.n_many, fl_Sieve_many, q⟩
theorem s_Sieve_many (T : TxtSieve K) (h : SieveOb K H p x0 x1 x2) (q : ∀ dx, H p = some (.ins (He.ga K "Sieve") dx (f_Sieve x0 x1 x2)) → D.nx σ (upd H p (.ins (He.ga K "Sieve") dx (f_Sieve x0 x1 y)))) : rSFl K "many" (.ref p) y D σ H := by
  obtain ⟨dx, h⟩ := h
  refine ⟨p, _, dx, _, rfl, h, T.cl, T.n_many, by show 3 < 1000; decide, ?_⟩
  rw [pf_Sieve_many]
  exact q dx h
theorem no_Sieve_put : (f_Sieve x0 x1 x2).lookup ("put" : Str) = none := by
  unfold f_Sieve
  rw [lk_tl (by decide +kernel), lk_tl (by decide +kernel), lk_tl (by decide +kernel), lk_nil]
theorem no_Sieve_take : (f_Sieve x0 x1 x2).lookup ("take" : Str) = none := by
  unfold f_Sieve
  rw [lk_tl (by decide +kernel), lk_tl (by decide +kernel), lk_tl (by decide +kernel), lk_nil]
theorem no_Sieve_remains : (f_Sieve x0 x1 x2).lookup ("remains" : Str) = none := by
  unfold f_Sieve
  rw [lk_tl (by decide +kernel), lk_tl (by decide +kernel), lk_tl (by decide +kernel), lk_nil]
end
def i_Sieve_0 : List (Str × V) := []
def i_Sieve_1 (x0 : V) : List (Str × V) := [(("kinds" : Str), x0)]
def i_Sieve_2 (x0 x1 : V) : List (Str × V) := [(("kinds" : Str), x0), (("room" : Str), x1)]
def i_Sieve_3 (x0 x1 x2 : V) : List (Str × V) := [(("kinds" : Str), x0), (("room" : Str), x1), (("many" : Str), x2)]
section
variable {K : PySem.W.Frag} {x0 x1 x2 y : V} {H : Hp} {Q : VK} {p dx : Addr} {D : Ends} {σ : L2.St}
theorem n_Sieve_kinds (T : TxtSieve K) (h : H p = some (.ins (He.ga K "Sieve") dx [])) (q : D.nx σ (upd H p (.ins (He.ga K "Sieve") dx (i_Sieve_1  y)))) : rSFl K "kinds" (.ref p) y D σ H := by
  refine ⟨p, _, dx, _, rfl, h, T.cl, T.n_kinds, by show 0 < 1000; decide, ?_⟩
  have e : putF "kinds" y [] = i_Sieve_1  y := by
    rw [put_nil] <;> rfl
  rw [e]
  exact q
theorem n_Sieve_room (T : TxtSieve K) (h : H p = some (.ins (He.ga K "Sieve") dx (i_Sieve_1 x0))) (q : D.nx σ (upd H p (.ins (He.ga K "Sieve") dx (i_Sieve_2 x0 y)))) : rSFl K "room" (.ref p) y D σ H := by
  refine ⟨p, _, dx, _, rfl, h, T.cl, T.n_room, by show 1 < 1000; decide, ?_⟩
  have e : putF "room" y (i_Sieve_1 x0) = i_Sieve_2 x0 y := by
    unfold i_Sieve_1
    rw [put_tl (by decide +kernel), put_nil] <;> rfl
  rw [e]
  exact q
theorem n_Sieve_many (T : TxtSieve K) (h : H p = some (.ins (He.ga K "Sieve") dx (i_Sieve_2 x0 x1))) (q : D.nx σ (upd H p (.ins (He.ga K "Sieve") dx (i_Sieve_3 x0 x1 y)))) : rSFl K "many" (.ref p) y D σ H := by
  refine ⟨p, _, dx, _, rfl, h, T.cl, T.n_many, by show 2 < 1000; decide, ?_⟩
  have e : putF "many" y (i_Sieve_2 x0 x1) = i_Sieve_3 x0 x1 y := by
    unfold i_Sieve_2
    rw [put_tl (by decide +kernel), put_tl (by decide +kernel), put_nil] <;> rfl
  rw [e]
  exact q
end
/-! ### a sieve as it stands -/
structure SieveS (K : PySem.W.Frag) (H : Hp) (p : Addr) (kv : V) (pr lo lc : Addr) (ks : List Str) (o : Ord) (cs : List Cell) (many : Int) : Prop where
  ob : SieveOb K H p kv (.ref pr) (.int many)
  kinds : KindsAt H kv ks
  room : RoomS K H pr lo lc o cs
  ne : p ≠ pr
theorem SieveOb.keep {K : PySem.W.Frag} {H H' : Hp} {p : Addr} {x0 x1 x2 : V} (h : SieveOb K H p x0 x1 x2) (k : ∀ o, H p = some o → H' p = some o) : SieveOb K H' p x0 x1 x2 := let ⟨dx, e⟩ := h; ⟨dx, k _ e⟩
section
variable {K : PySem.W.Frag} {H H' : Hp} {p pr lo lc : Addr} {kv : V} {ks : List Str} {o : Ord} {cs cs' : List Cell} {many many' : Int}
theorem SieveS.plc (S : SieveS K H p kv pr lo lc ks o cs many) : p ≠ lc ∧ p ≠ lo := by
  obtain ⟨dx, e⟩ := S.ob
  obtain ⟨vs, e2, _⟩ := S.room.cells
  obtain ⟨os, e3, _⟩ := S.room.ord
  exact ⟨ne_of e e2 (by intro z; cases z), ne_of e e3 (by intro z; cases z)⟩
theorem SieveS.tup (S : SieveS K H p kv pr lo lc ks o cs many) (k : But [p, lc] H H') : TupLe H H' := fun c xs e => by
  obtain ⟨dx, e1⟩ := S.ob
  obtain ⟨vs, e2, _⟩ := S.room.cells
  exact k c _ e (nn (ne_of e e1 (by intro z; cases z)) (ne_of e e2 (by intro z; cases z)))
theorem SieveS.same (S : SieveS K H p kv pr lo lc ks o cs many) (s : Same H H') : SieveS K H' p kv pr lo lc ks o cs many := ⟨S.ob.keep fun u => s p u, S.kinds.mono (TupLe.same s), S.room.same s, S.ne⟩
theorem SieveS.roomed (S : SieveS K H p kv pr lo lc ks o cs many) (k : But [lc] H H') (R : RoomS K H' pr lo lc o cs') : SieveS K H' p kv pr lo lc ks o cs' many :=
  ⟨S.ob.keep fun u e => k _ _ e (ne1 S.plc.1), S.kinds.mono (S.tup (k.wide fun x hx => by rw [List.mem_singleton] at hx; subst hx; simp)), R, S.ne⟩
theorem SieveS.counted {dx : Addr} (S : SieveS K H p kv pr lo lc ks o cs many) : SieveS K (upd H p (.ins (He.ga K "Sieve") dx (f_Sieve kv (.ref pr) (.int many')))) p kv pr lo lc ks o cs many' ∧ But [p] H (upd H p (.ins (He.ga K "Sieve") dx (f_Sieve kv (.ref pr) (.int many')))) := by
  have k : But [p] H (upd H p (.ins (He.ga K "Sieve") dx (f_Sieve kv (.ref pr) (.int many')))) := (But.refl _ H).put (by simp)
  have t := S.tup (k.wide fun x hx => by rw [List.mem_singleton] at hx; subst hx; simp)
  exact ⟨⟨⟨dx, upd_same⟩, S.kinds.mono t, ⟨S.room.ob.keep fun u e => up e S.ne.symm, S.room.ord.keep TurnAt.st t fun u e => up e S.plc.2.symm, S.room.cells.keep CellAt.st t fun u e => up e S.plc.1.symm, S.room.ne⟩, S.ne⟩, k⟩
theorem SieveS.keepBut {S0 : List Addr} (S : SieveS K H p kv pr lo lc ks o cs many) (t : TupLe H H') (k : But S0 H H') (h : ∀ b, b = p ∨ b = pr ∨ b = lo ∨ b = lc → b ∉ S0) : SieveS K H' p kv pr lo lc ks o cs many :=
  ⟨S.ob.keep fun u e => k _ _ e (h _ (.inl rfl)), S.kinds.mono t, ⟨S.room.ob.keep fun u e => k _ _ e (h _ (.inr (.inl rfl))), S.room.ord.keep TurnAt.st t fun u e => k _ _ e (h _ (.inr (.inr (.inl rfl)))), S.room.cells.keep CellAt.st t fun u e => k _ _ e (h _ (.inr (.inr (.inr rfl)))), S.room.ne⟩, S.ne⟩
end
abbrev N_Sieve___init__ : List Str := ["self", "kinds", "order"]
abbrev P_Sieve___init__ : List Str := ["self", "kinds", "order"]
def sp_Sieve___init__ (K : PySem.W.Frag) : Sp := fun vs H Q E => match vs with
  | [s, kv, ov] => ∃ p dx ks o lo, s = .ref p ∧ H p = some (.ins (He.ga K "Sieve") dx []) ∧ KindsAt H kv ks ∧ GoodKinds ks ∧ ov = .ref lo ∧ Lst TurnAt H lo o ∧ GoodOrd ks o ∧ o.length ≤ 1000 ∧
    ∀ pr lo2 lc H', SieveS K H' p kv pr lo2 lc ks o [] 0 → H pr = none → H lo2 = none → H lc = none → But [p] H H' → Q .non H'
  | _ => False
def t_Sieve___init__ (K : PySem.W.Frag) (E : XK) : TS := (tSeq (tDrop (tCall (sp_need_kinds K) [] E (tCons (tVar 1) tNil)))
  (tSeq (tDrop (tCall (sp_need_order K) [] E (tCons (tVar 1) (tCons (tVar 2) tNil))))
   (tSeq (sFl K (tVar 0) (tCB1 (xTuple K) (tVar 1)) "kinds")
    (tSeq (sFl K (tVar 0) (tMake (He.ga K "Room") (sp_Room___init__ K) [] E (tCons (tCB1 (xList K) (tVar 2)) tNil)) "room")
     (sFl K (tVar 0) (tC (.int 0)) "many")))))
theorem pure_Sieve___init__ {K : PySem.W.Frag} (T : TxtSieve K) : ∀ vs H Q E, sp_Sieve___init__ K vs H Q E → t_Sieve___init__ K E { nx := fun _ H' => Q .non H', rt := Q } (start N_Sieve___init__ vs) H := by
  intro vs H Q E h
  match vs, h with
  | [s, kv, ov], h =>
    obtain ⟨p, dx, ks, o, lo, rfl, hp, ⟨kt, rfl, hkt⟩, gk, rfl, Lo, go, hol, k⟩ := h
    refine ⟨_, rfl, ks, ⟨kt, rfl, hkt⟩, gk, fun H1 s1 => ?_⟩
    refine ⟨_, rfl, _, rfl, ks, o, ⟨kt, rfl, s1 _ _ hkt⟩, ⟨lo, rfl, Lo.same TurnAt.st s1⟩, go, hol, fun H2 s2 => ?_⟩
    have s02 := s1.trans s2
    have hp2 := s02 _ _ hp
    refine ⟨_, rfl, kt, _, rfl, .inr ⟨SqT.of (s02 _ _ hkt), _, rfl, n_Sieve_kinds T hp2 ?_⟩⟩
    have npo : lo ≠ p := by
      obtain ⟨tv, e, _⟩ := Lo
      exact ne_of e hp (by intro z; cases z)
    have k3 : But [p] H (upd H2 p (.ins (He.ga K "Sieve") dx (i_Sieve_1 (.ref kt)))) := (But.same s02).put (by simp)
    have hp3 : upd H2 p (.ins (He.ga K "Sieve") dx (i_Sieve_1 (.ref kt))) p = some _ := upd_same
    have t3 : TupLe H (upd H2 p (.ins (He.ga K "Sieve") dx (i_Sieve_1 (.ref kt)))) := k3.tupOf fun b hb => by rw [List.mem_singleton] at hb; subst hb; exact nt_ins hp
    generalize upd H2 p (.ins (He.ga K "Sieve") dx (i_Sieve_1 (.ref kt))) = H3 at k3 hp3 t3 ⊢
    have Lo3 : Lst TurnAt H3 lo o := Lo.keep TurnAt.st t3 fun u e => k3 _ _ e (ne1 npo)
    obtain ⟨ov, eo, po⟩ := Lo3
    refine ⟨_, rfl, lo, _, rfl, .inl (SqL.of eo), fun lo2 hlo2 => ?_⟩
    have s4 : Same H3 (upd H3 lo2 (.lst ov)) := Rs.Same.new hlo2
    have Lo4 : Lst TurnAt (upd H3 lo2 (.lst ov)) lo2 o := ⟨ov, upd_same, Paired.tl TurnAt.st (TupLe.same s4) po⟩
    have npo2 : p ≠ lo2 := ne_of_none hp3 hlo2
    have hlo20 : H lo2 = none := none_of_but k3 hlo2 (ne1 npo2.symm)
    have hp4 := s4 _ _ hp3
    generalize upd H3 lo2 (.lst ov) = H4 at s4 Lo4 hp4 ⊢
    refine fun pr dr hpr hdr ndr => ?_
    have s5 : Same H4 (upd (upd H4 dr (.own pr)) pr (.ins (He.ga K "Room") dr [])) := (Rs.Same.new hdr).trans (Rs.Same.new (by rw [upd_ne ndr.symm]; exact hpr))
    have hpr5 : upd (upd H4 dr (.own pr)) pr (.ins (He.ga K "Room") dr []) pr = some (.ins (He.ga K "Room") dr []) := upd_same
    generalize upd (upd H4 dr (.own pr)) pr (.ins (He.ga K "Room") dr []) = H5 at s5 hpr5 ⊢
    have npr : p ≠ pr := ne_of_none hp4 hpr
    have k04 : But [p] H H4 := k3.trans (But.same s4)
    have hpr0 : H pr = none := none_of_but k04 hpr (ne1 npr.symm)
    refine ⟨pr, dr, lo2, o, rfl, rfl, hpr5, Lo4.same TurnAt.st s5, fun lc H6 R hlc k6 => ⟨rfl, ?_⟩⟩
    have hp6 := k6 _ _ (s5 _ _ hp4) (ne1 npr)
    have plc : p ≠ lc := ne_of_none (s5 _ _ hp4) hlc
    have hlc0 : H lc = none := none_of_but k04 (s5.free hlc) (ne1 plc.symm)
    have s46 : Same H4 H6 := k6.fresh s5 fun x hx => by rw [List.mem_singleton] at hx; rw [hx]; exact hpr
    refine ⟨_, rfl, n_Sieve_room T hp6 ⟨_, rfl, n_Sieve_many T upd_same ?_⟩⟩
    have k7 : ∀ u1 u2 : HO, But [p] H6 (upd (upd H6 p u1) p u2) := fun u1 u2 => ((But.refl _ H6).put (by simp)).put (by simp)
    have t7 : ∀ u1 u2 : HO, TupLe H6 (upd (upd H6 p u1) p u2) := fun u1 u2 => (k7 u1 u2).tupOf fun b hb => by rw [List.mem_singleton] at hb; subst hb; exact nt_ins hp6
    have hk6 : KindsAt H6 (.ref kt) ks := IsTp.mono (TupLe.same s46) (IsTp.mono (TupLe.same s4) (IsTp.mono t3 ⟨kt, rfl, hkt⟩))
    exact k pr lo2 lc _ ⟨⟨dx, upd_same⟩, hk6.mono (t7 _ _), ⟨R.ob.keep fun u e => k7 _ _ _ _ e (ne1 npr.symm), R.ord.keep TurnAt.st (t7 _ _) fun u e => k7 _ _ _ _ e (ne1 npo2.symm), R.cells.keep CellAt.st (t7 _ _) fun u e => k7 _ _ _ _ e (ne1 plc.symm), R.ne⟩, npr⟩ hpr0 hlo20 hlc0 ((k04.trans (But.same s46)).trans (k7 _ _))
abbrev N_Sieve_put : List Str := ["self", "row"]
abbrev P_Sieve_put : List Str := ["self", "row"]
def sp_Sieve_put (K : PySem.W.Frag) : Sp := fun vs H Q E => match vs with
  | [s, rv] => ∃ p kv pr lo lc ks o cs many r, s = .ref p ∧ SieveS K H p kv pr lo lc ks o cs many ∧ RowAt H rv r ∧ ks.length ≤ 4 ∧ (∀ t ∈ o, t.1 < ks.length) ∧ isRow ks r = true ∧ (∀ c ∈ cs, isRow ks c.2.2 = true) ∧ IsHeap (cless o) c0 cs ∧ cs.length ≤ 999 ∧
    ∀ cs' H', SieveS K H' p kv pr lo lc ks o cs' (many + 1) → IsHeap (cless o) c0 cs' → cs'.Perm ((0, (many, r)) :: cs) → But [p, lc] H H' → Q (.int many) H'
  | _ => False
def t_Sieve_put (K : PySem.W.Frag) (E : XK) : TS := (tSeq (tDrop (tCall (sp_need_rows K) [] E (tCons (tFl K (tVar 0) "kinds") (tCons (tLst (tCons (tVar 1) tNil)) (tConsC (.int 1) tNil)))))
  (tSeq (tDrop (tMeth (He.ga K "Room") "put" (sp_Room_put K) [] E (tFl K (tVar 0) "room") (tConsC (.int 0) (tCons (tTup (tCons (tFl K (tVar 0) "many") (tCons (tVar 1) tNil))) tNil))))
   (tSeq (sFl K (tVar 0) (tOpC xAdd (tFl K (tVar 0) "many") (.int 1)) "many")
    (tRet (tOpC xSub (tFl K (tVar 0) "many") (.int 1))))))
theorem pure_Sieve_put {K : PySem.W.Frag} (T : TxtSieve K) : ∀ vs H Q E, sp_Sieve_put K vs H Q E → t_Sieve_put K E { nx := fun _ H' => Q .non H', rt := Q } (start N_Sieve_put vs) H := by
  intro vs H Q E h
  match vs, h with
  | [s, rv], h =>
    obtain ⟨p, kv, pr, lo, lc, ks, o, cs, many, r, rfl, S, hr, hk4, hcol, hrow, hrows, hheap, hlen, k⟩ := h
    refine ⟨_, rfl, g_Sieve_kinds T S.ob ⟨_, rfl, szle (by show 1 ≤ 100000; decide), fun l hl => ?_⟩⟩
    have s1 : Same H (upd H l (.lst [rv])) := Rs.Same.new hl
    have L1 : Lst RowAt (upd H l (.lst [rv])) l [r] := ⟨[rv], upd_same, P2.one (RowAt.st _ _ _ _ (TupLe.same s1) hr)⟩
    generalize upd H l (.lst [rv]) = H1 at s1 L1 ⊢
    have S1 := S.same s1
    refine ⟨ks, [r], 1, S1.kinds, ⟨l, rfl, L1⟩, rfl, hk4, by simpa using hrow, by simp, fun H2 s2 => ?_⟩
    have S2 := S1.same s2
    obtain ⟨dr, hob⟩ := S2.room.ob
    refine ⟨_, rfl, g_Sieve_room T S2.ob ⟨pr, dr, _, rfl, hob, no_Room_put, _, rfl, g_Sieve_many T S2.ob ⟨_, rfl, szle (by show 2 ≤ 100000; decide), fun t ht => ?_⟩⟩⟩
    have s3 : Same H2 (upd H2 t (.tup [.int many, rv])) := Rs.Same.new ht
    have et : upd H2 t (.tup [.int many, rv]) t = some (.tup [.int many, rv]) := upd_same
    generalize upd H2 t (.tup [.int many, rv]) = H3 at s3 et ⊢
    have S3 := S2.same s3
    have s03 := (s1.trans s2).trans s3
    have hr3 := RowAt.st _ _ _ _ (TupLe.same s03) hr
    refine ⟨pr, lo, lc, o, cs, ks, 0, (many, r), rfl, rfl, S3.room, ⟨rv, ⟨t, rfl, et⟩, hr3⟩, hcol, hrow, hrows, hheap, by omega, fun cs' H4 R4 hh pm k4 => ?_⟩
    have S4 := S3.roomed k4 R4
    refine ⟨_, rfl, g_Sieve_many T S4.ob ⟨_, _, rfl, rfl, _, rfl, s_Sieve_many T S4.ob fun dx hp => ?_⟩⟩
    obtain ⟨S5, k5⟩ := S4.counted (dx := dx) (many' := many + 1)
    refine ⟨_, rfl, g_Sieve_many T S5.ob ⟨_, _, rfl, rfl, ?_⟩⟩
    dsimp only
    rw [Int.add_sub_cancel]
    refine k cs' _ S5 hh pm ?_
    exact ((But.same s03).trans (k4.wide fun x hx => by rw [List.mem_singleton] at hx; subst hx; simp)).trans (k5.wide fun x hx => by rw [List.mem_singleton] at hx; subst hx; simp)
abbrev N_Sieve_take : List Str := ["self"]
abbrev P_Sieve_take : List Str := ["self"]
def sp_Sieve_take (K : PySem.W.Frag) : Sp := fun vs H Q E => match vs with
  | [s] => ∃ p kv pr lo lc ks o cs many, s = .ref p ∧ SieveS K H p kv pr lo lc ks o cs many ∧ (∀ t ∈ o, t.1 < ks.length) ∧ (∀ c ∈ cs, isRow ks c.2.2 = true) ∧ IsHeap (cless o) c0 cs ∧ 0 < cs.length ∧ cs.length ≤ 1000 ∧
    ∀ cs' v H', SieveS K H' p kv pr lo lc ks o cs' many → IsHeap (cless o) c0 cs' → (cs.getD 0 c0 :: cs').Perm cs → PairAt H' v (cs.getD 0 c0).2 → But [lc] H H' → Q v H'
  | _ => False
def t_Sieve_take (K : PySem.W.Frag) (E : XK) : TS := (tSeq (tIfS (tTest (tOpC rEq (tMeth (He.ga K "Room") "many_in" (sp_Room_many_in K) [] E (tFl K (tVar 0) "room") tNil) (.int 0))) tNever tNext)
  (tRet (tOpC (rIxT K) (tMeth (He.ga K "Room") "take" (sp_Room_take K) [] E (tFl K (tVar 0) "room") tNil) (.int 1))))
theorem pure_Sieve_take {K : PySem.W.Frag} (T : TxtSieve K) : ∀ vs H Q E, sp_Sieve_take K vs H Q E → t_Sieve_take K E { nx := fun _ H' => Q .non H', rt := Q } (start N_Sieve_take vs) H := by
  intro vs H Q E h
  match vs, h with
  | [s], h =>
    obtain ⟨p, kv, pr, lo, lc, ks, o, cs, many, rfl, S, hcol, hrows, hheap, hpos, hlen, k⟩ := h
    obtain ⟨dr, hob⟩ := S.room.ob
    refine ⟨_, rfl, g_Sieve_room T S.ob ⟨pr, dr, _, rfl, hob, no_Room_many_in, pr, lo, lc, o, cs, rfl, S.room, ?_⟩⟩
    refine ⟨rfl, _, rfl, ?_⟩
    have e0 : decide (V.int ((cs.length : Nat) : Int) = V.int 0) = false := decide_eq_false fun z => by injection z with z; omega
    rw [e0]
    refine ⟨_, rfl, g_Sieve_room T S.ob ⟨pr, dr, _, rfl, hob, no_Room_take, pr, lo, lc, o, cs, ks, rfl, S.room, hcol, hrows, hheap, hpos, hlen, fun cs' v H1 R1 hh pm hv kk => ?_⟩⟩
    obtain ⟨w, hvw, hw⟩ := hv
    exact ixT hvw (j := 1) rfl rfl (k cs' w H1 (S.roomed kk R1) hh pm hw kk)
end Rs

/-! a < b and min(a, b) of data of any depth -/
namespace RsM
open PySem PySem.SeqAt
section
variable {prog : Program} {w : World} {A : Around} {R : Result → Shared → Prop} {I : Addr} {fp wr : List Addr} {n : Nat} {P : Nat → Value → Prop} {St : Nat → Heap → Prop}
/-- i is ahead of j, wherever what base holds still stands -/
def CmpSt (prog : Program) (w : World) (A : Around) (base : Heap) (P : Nat → Value → Prop) (bt : Nat → Nat → Bool) : Prop :=
  ∀ i j x y (z : Shared) (Qz : Value → Shared → Prop) (Ez : Value → Shared → Prop), j < i → (∀ c o, base.get? c = some o → z.heap.get? c = some o) → P i x → P j y → Qz (.bool (bt i j)) z → wpAny (model prog w) A (richCompare .Lt x y) Qz Ez z
theorem best_le (bt : Nat → Nat → Bool) : ∀ q, argBest bt q ≤ q
  | 0 => Nat.le_refl _
  | q + 1 => by
    unfold argBest
    have := best_le bt q
    split <;> omega
theorem more (W : Walks prog w A.in1 I fp wr n P St) {base : Heap} {bt : Nat → Nat → Bool} (cmp : CmpSt prog w A.in1 base P bt) {L : Addr} (nf : L ∉ fp) (old : ∀ c o, base.get? c = some o → c ∉ wr ∧ c ≠ L) :
    ∀ (m q : Nat) (z : Shared) (best : Value) (c : Nat), n - (q + 1) = m → q + 1 ≤ n → St (q + 1) z.heap → P (argBest bt q) best → (∀ c o, base.get? c = some o → z.heap.get? c = some o) →
    z.heap.get? L = some { cls := .type "list", dict := none, data := .seq #[best, best] c, slots := #[] } →
    (∀ v g tk, P (argBest bt (n - 1)) v → (∀ b o, b ∉ wr → b ≠ L → z.heap.get? b = some o → g.get? b = some o) → R (.ok (.ret v)) { z with heap := g, toks := tk }) →
    codeAny (model prog w) A (.builtin "min.loop" ⟨[.ref I, .none, .ref L], []⟩) R z := by
  have nw : L ∉ wr := fun h => nf (W.sub _ h)
  have nm : (toString "min" ++ toString ".loop" : String) = "min.loop" := by decide
  intro m
  induction m with
  | zero =>
    intro q z best c hm hq st pb hb hL fin
    have en : q + 1 = n := by omega
    refine codeAny_builtin F.entry_min_loop ?_; rw [Around.under_plainId F.plain_min_loop _]
    show wpAny _ A.in1 (seqItems? (.ref L) >>= _) _ _ z
    refine wpAny_bind (wpAny_seqItems hL rfl ?_); show wpAny _ A.in1 (tryCatch (pyNext (.ref I)) _ >>= _) _ _ z
    refine wpAny_bind (wpAny_tryCatch (W.done z _ _ (en ▸ st) fun g tk kp => ?_))
    have hL2 := kp L _ nw hL
    show wpAny _ A.in1 (updateSeq L (fun _ => #[]) >>= _) _ _ _
    refine wpAny_bind ?_
    refine wpAny_updateSeq hL2 rfl (wpAny_bind (wpAny_letGo (wpAny_pure ?_)))
    refine fin best _ tk (by rw [← en]; exact pb) fun b o hbw hbL e => (Heap.get?_update_other _ _ (Ne.symm hbL)).trans (kp b o hbw e)
  | succ m ih =>
    intro q z best c hm hq st pb hb hL fin
    have lt : q + 1 < n := by omega
    refine codeAny_builtin F.entry_min_loop ?_; rw [Around.under_plainId F.plain_min_loop _]
    show wpAny _ A.in1 (seqItems? (.ref L) >>= _) _ _ z
    refine wpAny_bind (wpAny_seqItems hL rfl ?_); show wpAny _ A.in1 (tryCatch (pyNext (.ref I)) _ >>= _) _ _ z
    refine wpAny_bind (wpAny_tryCatch (W.item (q + 1) z _ _ lt st fun v g tk pv st2 kp => ?_))
    have hL2 := kp L _ nw hL
    have hb2 : ∀ c o, base.get? c = some o → g.get? c = some o := fun c o e => kp c o (old c o e).1 (hb c o e)
    show wpAny _ A.in1 (tryCatch (holding [v, v] (richCompare .Lt v best >>= _)) _ >>= _) _ _ _
    refine wpAny_bind (wpAny_tryCatch (wpAny_holding (wpAny_bind (cmp (q + 1) (argBest bt q) v best _ _ _ (Nat.lt_succ_of_le (best_le bt q)) hb2 pv pb ?_))))
    refine wpAny_bind (wpAny_holding (wpAny_truthy_bool ?_)); refine wpAny_bind (wpAny_letGo (wpAny_pure ?_))
    cases hbt : bt (q + 1) (argBest bt q) with
    | true =>
      simp only [if_true]
      refine wpAny_bind ?_
      refine wpAny_updateSeq hL2 rfl (wpAny_bind (wpAny_letGo ?_))
      rw [nm]
      refine wpAny_pure ⟨plainId_quiet F.plain_min_loop _, ih (q + 1) _ v _ (by omega) lt (W.frame _ _ _ st2 fun b hbf o e => ?_) (by simp only [argBest, hbt, if_true]; exact pv) (fun c o e => ?_) (Heap.get?_update_self _ hL2 rfl) fun v' g' tk' pv' kp' => ?_⟩
      · exact (Heap.get?_update_other _ _ (fun h : L = b => nf (by rw [h]; exact hbf))).trans e
      · exact (Heap.get?_update_other _ _ (Ne.symm (old c o e).2)).trans (hb2 c o e)
      · exact fin v' g' tk' pv' fun b o hbw hbL e => kp' b o hbw hbL ((Heap.get?_update_other _ _ (Ne.symm hbL)).trans (kp b o hbw e))
    | false =>
      simp only [Bool.false_eq_true, if_false]
      refine wpAny_bind (wpAny_letGo ?_)
      rw [nm]
      refine wpAny_pure ⟨plainId_quiet F.plain_min_loop _, ih (q + 1) _ best c (by omega) lt st2 (by simp only [argBest, hbt, Bool.false_eq_true, if_false]; exact pb) hb2 hL2 fun v' g' tk' pv' kp' => ?_⟩
      exact fin v' g' tk' pv' fun b o hbw hbL e => kp' b o hbw hbL (kp b o hbw e)
theorem first (W : Walks prog w A.in1 I fp wr n P St) {base : Heap} {bt : Nat → Nat → Bool} (cmp : CmpSt prog w A.in1 base P bt) {L : Addr} (nf : L ∉ fp) (old : ∀ c o, base.get? c = some o → c ∉ wr ∧ c ≠ L) (pos : 0 < n) {z : Shared} {c : Nat} (st : St 0 z.heap) (hb : ∀ c o, base.get? c = some o → z.heap.get? c = some o)
    (hL : z.heap.get? L = some { cls := .type "list", dict := none, data := .seq #[] c, slots := #[] })
    (fin : ∀ v g tk, P (argBest bt (n - 1)) v → (∀ b o, b ∉ wr → b ≠ L → z.heap.get? b = some o → g.get? b = some o) → R (.ok (.ret v)) { z with heap := g, toks := tk }) :
    codeAny (model prog w) A (.builtin "min.loop" ⟨[.ref I, .none, .ref L], []⟩) R z := by
  have nw : L ∉ wr := fun h => nf (W.sub _ h)
  have nm : (toString "min" ++ toString ".loop" : String) = "min.loop" := by decide
  refine codeAny_builtin F.entry_min_loop ?_; rw [Around.under_plainId F.plain_min_loop _]
  show wpAny _ A.in1 (seqItems? (.ref L) >>= _) _ _ z
  refine wpAny_bind (wpAny_seqItems hL rfl ?_); show wpAny _ A.in1 (tryCatch (pyNext (.ref I)) _ >>= _) _ _ z
  refine wpAny_bind (wpAny_tryCatch (W.item 0 z _ _ pos st fun v g tk pv st2 kp => ?_))
  have hL2 := kp L _ nw hL
  have hb2 : ∀ c o, base.get? c = some o → g.get? c = some o := fun c o e => kp c o (old c o e).1 (hb c o e)
  show wpAny _ A.in1 (updateSeq L (fun _ => #[v, v]) >>= _) _ _ _
  refine wpAny_bind ?_
  refine wpAny_updateSeq hL2 rfl ?_
  rw [nm]
  refine wpAny_pure ⟨plainId_quiet F.plain_min_loop _, more W cmp nf old _ 0 _ v _ rfl pos (W.frame _ _ _ st2 fun b hbf o e => ?_) pv (fun c o e => ?_) (Heap.get?_update_self _ hL2 rfl) fun v' g' tk' pv' kp' => ?_⟩
  · exact (Heap.get?_update_other _ _ (fun h : L = b => nf (by rw [h]; exact hbf))).trans e
  · exact (Heap.get?_update_other _ _ (Ne.symm (old c o e).2)).trans (hb2 c o e)
  · exact fin v' g' tk' pv' fun b o hbw hbL e => kp' b o hbw hbL ((Heap.get?_update_other _ _ (Ne.symm hbL)).trans (kp b o hbw e))
end
section
variable {prog : Program} {w : World} {A : Around} {E : Value → Shared → Prop} {s : Shared}
/-- min(a, b): a, but for b < a -/
theorem call_min_at {a b : Value} {k : Bool} {Q : Value → Shared → Prop} (hh : A.handled = none) (lt : ∀ z : Shared, (∀ c o, s.heap.get? c = some o → z.heap.get? c = some o) → RcLt A.in1 z b a k)
    (h : ∀ g tk, (∀ c o, s.heap.get? c = some o → g.get? c = some o) → Q (if k = true then b else a) { s with heap := g, toks := tk }) :
    wpAny (model prog w) A (call (.builtin "min") [a, b]) Q E s := by
  have nm : (toString "min" ++ toString ".loop" : String) = "min.loop" := by decide
  refine call_function_tree F.kind_min F.plain_min F.entry_min (F.args_min2 _ _) ?_
  show wpAny _ A.in1 (Builtin.Builtins.bindParams "min" ["key", "default"] 0 ⟨[], []⟩ >>= _) _ _ s
  refine wpAny_bind (wpAny_of_eq (show Builtin.Builtins.bindParams "min" ["key", "default"] 0 ⟨[], []⟩ = pure [none, none] from rfl) ?_); show wpAny _ A.in1 (newTuple [a, b] >>= _) _ _ s
  refine wpAny_bind (wpAny_newObj_type ?_)
  have hT : (s.heap.push { cls := .type "tuple", data := .seq #[a, b] }).IsTuple s.heap.objs.size #[a, b] := ⟨_, Heap.get?_push_size _ rfl, rfl, 0, rfl⟩
  refine wpAny_bind (wpAny_pyIter_tuple hT ?_)
  refine wpAny_bind (wpAny_newObj_type ?_)
  have z1 : (s.heap.push { cls := .type "tuple", data := .seq #[a, b] }).objs.size = s.heap.objs.size + 1 := Heap.size_push ..
  rw [nm]
  have sub1 : ∀ c o, s.heap.get? c = some o → (s.heap.push { cls := .type "tuple", data := .seq #[a, b] }).get? c = some o := fun c o e => Heap.get?_push_of_some _ e
  generalize hg1 : s.heap.push { cls := .type "tuple", data := .seq #[a, b] } = g1 at hT z1 sub1
  have e1 : (g1.push { cls := .type "tuple_iterator", data := .fields #[.ref s.heap.objs.size, .int 0 0] }).IsTupleIter g1.objs.size s.heap.objs.size 0 := ⟨_, Heap.get?_push_size _ rfl, rfl, rfl⟩
  have sub2 : ∀ c o, g1.get? c = some o → (g1.push { cls := .type "tuple_iterator", data := .fields #[.ref s.heap.objs.size, .int 0 0] }).get? c = some o := fun c o e => Heap.get?_push_of_some _ e
  have hT2 := hT.push { cls := .type "tuple_iterator", data := .fields #[.ref s.heap.objs.size, .int 0 0] }
  have z2 : (g1.push { cls := .type "tuple_iterator", data := .fields #[.ref s.heap.objs.size, .int 0 0] }).objs.size = s.heap.objs.size + 2 := by rw [Heap.size_push, z1]
  generalize g1.push { cls := .type "tuple_iterator", data := .fields #[.ref s.heap.objs.size, .int 0 0] } = g2 at e1 sub2 hT2 z2
  have old : ∀ c o, s.heap.get? c = some o → c ≠ g1.objs.size ∧ c ≠ g2.objs.size := fun c o e => by
    have := Heap.lt_size e
    rw [z1, z2]
    exact ⟨Nat.ne_of_lt (Nat.lt_of_lt_of_le this (Nat.le_succ _)), Nat.ne_of_lt (Nat.lt_of_lt_of_le this (Nat.le_add_right _ 2))⟩
  refine wpAny_pure ⟨plainId_quiet F.plain_min_loop _, first (bt := fun i j => k) (base := s.heap) (Walks.tuple (A := A.in1) hh g1.objs.size s.heap.objs.size (by rw [z1]; exact Nat.ne_of_lt (Nat.lt_succ_self _)) #[a, b]) (fun i j x y z Qz Ez ji hb px py q => ?_) (fun hm => ?_) (fun c o e => ?_) (by show 0 < 2; omega) ⟨e1.at fun o e => Heap.get?_push_of_some _ e, hT2.push _⟩ (fun c o e => ?_) (Heap.get?_push_size _ rfl) fun v g tk pv kp => ?_⟩
  · have hi := (Array.getElem?_eq_some_iff.mp px).1
    have hj := (Array.getElem?_eq_some_iff.mp py).1
    have hi2 : i < 2 := hi
    have i1 : i = 1 := by omega
    have j0 : j = 0 := by omega
    subst i1 j0
    have ex : x = b := by simpa using px.symm
    have ey : y = a := by simpa using py.symm
    subst ex ey
    exact lt z hb prog w Ez Qz q
  · rcases List.mem_cons.mp hm with e | hm
    · rw [z1, z2] at e
      exact absurd e (Nat.ne_of_gt (Nat.lt_succ_self _))
    · rcases List.mem_cons.mp hm with e | hm
      · rw [z2] at e
        exact absurd e (Nat.ne_of_gt (Nat.lt_add_of_pos_right (by decide)))
      · cases hm
  · obtain ⟨h1, h2⟩ := old c o e
    exact ⟨fun hm => h1 (List.mem_singleton.mp hm), h2⟩
  · exact Heap.get?_push_of_some _ (sub2 _ _ (sub1 _ _ e))
  · have hv : v = if k = true then b else a := by
      have hp : (#[a, b] : Array Value)[argBest (fun i j => k) 1]? = some v := pv
      cases k with
      | true =>
        have e : argBest (fun i j => true) 1 = 1 := rfl
        rw [e] at hp
        simpa using hp.symm
      | false =>
        have e : argBest (fun i j => false) 1 = 0 := rfl
        rw [e] at hp
        simpa using hp.symm
    rw [hv]
    refine h g tk fun c o e => ?_
    obtain ⟨h1, h2⟩ := old c o e
    exact kp c o (fun hm => h1 (List.mem_singleton.mp hm)) h2 (Heap.get?_push_of_some _ (sub2 _ _ (sub1 _ _ e)))
end
end RsM
namespace Rs
open PySem PySem.Spec PyProof.Rows L2
/-- (a number, places) -/
def cutD (c : Int × List Int) : PyData := .tuple [.int c.1, .list (c.2.map PyData.int)]
theorem alike_ints : ∀ xs ys : List Int, PySem.W.alikeAll (xs.map PyData.int) (ys.map PyData.int) = true
  | [], ys => by cases ys <;> rfl
  | x :: xs, [] => rfl
  | x :: xs, y :: ys => by
    show (true && PySem.W.alikeAll (xs.map PyData.int) (ys.map PyData.int)) = true
    rw [alike_ints xs ys]
    rfl
theorem cut_alike (a b : Int × List Int) : PySem.W.alike (cutD a) (cutD b) = true := by
  show (true && (PySem.W.alikeAll (a.2.map PyData.int) (b.2.map PyData.int) && true)) = true
  rw [alike_ints]
  rfl
theorem cut_lt (a b : Int × List Int) : (PySem.W.dataLt (cutD a) (cutD b) = true → a.1 ≤ b.1) ∧ (PySem.W.dataLt (cutD a) (cutD b) = false → b.1 ≤ a.1) := by
  by_cases e : a.1 = b.1
  · exact ⟨fun _ => by omega, fun _ => by omega⟩
  · have n : PyData.eqv (.int a.1) (.int b.1) = false := by
      show (a.1 == b.1) = false
      simpa using e
    have q : PySem.W.dataLt (cutD a) (cutD b) = decide (a.1 < b.1) := by
      unfold cutD
      rw [PySem.W.dataLt_tuple, PySem.W.dataLt_all_no rfl n, PySem.W.dataLt_int]
    rw [q]
    exact ⟨fun h => by have := of_decide_eq_true h; omega, fun h => by have := of_decide_eq_false h; omega⟩
theorem depth_ints : ∀ xs : List Int, PyData.depthAll (xs.map PyData.int) ≤ 1
  | [] => by simp [PyData.depthAll]
  | x :: xs => by
    have := depth_ints xs
    simp only [List.map_cons, PyData.depthAll, PyData.depth]
    omega
theorem cut_depth (a : Int × List Int) : (cutD a).depth ≤ 4 := by
  have := depth_ints a.2
  simp only [cutD, PyData.depth, PyData.depthAll]
  omega
/-- x < y of (a number, places): by the numbers; of like ones either -/
def rLtCut (K : PySem.W.Frag) : R2 := fun x y H Q => ∃ c e : Int × List Int, Dp K H x (cutD c) ∧ Dp K H y (cutD e) ∧ ∀ b : Bool, (b = true → c.1 ≤ e.1) → (b = false → e.1 ≤ c.1) → Q (.bl b) H
/-- min(x, y) of these -/
def rMinCut (K : PySem.W.Frag) : List V → Hp → VK → Prop := fun vs H Q => ∃ (x y : V) (c e : Int × List Int), vs = [x, y] ∧ Dp K H x (cutD c) ∧ Dp K H y (cutD e) ∧ (c.1 ≤ e.1 → Q x H) ∧ (e.1 ≤ c.1 → Q y H)
section
variable {X : Cx}
theorem op_ltCut (hu : X.A.units + 64 < cLine) : OpR X (compareOp .Lt) (rLtCut X.K) := by
  intro pins s σ H x y v u Q I rx ry h
  obtain ⟨c, e, hc, he, q⟩ := h
  obtain ⟨as, r1⟩ := Dp.reads I _ x v hc rx
  obtain ⟨bs, r2⟩ := Dp.reads I _ y u he ry
  have d1 := cut_depth c
  have d2 := cut_depth e
  have R := PySem.W.rcLt_alike (cutD c) (cutD e) X.A s v u as bs r1 r2 (cut_alike c e) (by intro z; cases z) (by omega)
  have z : wpAny (model X.prog X.w) X.A (compareOp .Lt v u) (EP X pins σ Q) X.xe s := R X.prog X.w X.xe (EP X pins σ Q) ⟨.bl _, H, I, rfl, q _ (cut_lt c e).1 (cut_lt c e).2⟩
  exact z
theorem call_minCut (hu : X.A.units + 64 < cLine) (hc : X.calm = true) : CallR X (.builtin "min") (rMinCut X.K) := by
  intro pins s σ H xs us Q I r h
  obtain ⟨x, y, c, e, rfl, h1, h2, q1, q2⟩ := h
  obtain ⟨u, w', rfl, rx, ry⟩ := vals2 r
  obtain ⟨as, r1⟩ := Dp.reads I _ x u h1 rx
  obtain ⟨bs, r2⟩ := Dp.reads I _ y w' h2 ry
  have d1 := cut_depth c
  have d2 := cut_depth e
  refine RsM.call_min_at (I.ok.hd hc) (k := PySem.W.dataLt (cutD e) (cutD c)) (fun z kz => PySem.W.rcLt_alike (cutD e) (cutD c) X.A.in1 z w' u bs as (Reads.keeps kz r2) (Reads.keeps kz r1) (cut_alike e c) (by intro z; cases z) ?_) fun g tk kg => ?_
  · show X.A.units + 1 + _ < cLine
    omega
  · have I2 : Inv X pins σ H { s with heap := g, toks := tk } := I.kept kg
    have l := cut_lt e c
    cases hb : PySem.W.dataLt (cutD e) (cutD c) with
    | true => exact ⟨y, H, I2, ry, q2 (l.1 hb)⟩
    | false => exact ⟨x, H, I2, rx, q1 (l.2 hb)⟩
end
end Rs

namespace Rs
open PySem PySem.Spec PyProof.Rows L2
/-! ### comprehensions that make a list of what each item gives, if it gives something -/
section
variable {α β : Type} {R : Rel α} {S : Rel β} {H1 H' H4 : Hp} {D : Addr} {dn : List β} {y : V} {b : β}
def PvL (S : Rel β) (H1 : Hp) (D : Addr) (dn : List β) (H' : Hp) : Prop := Lst S H' D dn ∧ Same H1 H'
theorem lcStart (hD : H1 D = none) : PvL S H1 D [] (upd H1 D (.lst [])) := ⟨⟨[], upd_same, .nil⟩, Rs.Same.new hD⟩
theorem lcPut (st : Stable S) (hD : H1 D = none) (P : PvL S H1 D dn H') (s : Same H' H4) (hy : S H4 y b) (hl : dn.length < 100000) : ∃ acc, H4 D = some (.lst acc) ∧ acc.length < sizeLine ∧ PvL S H1 D (dn ++ [b]) (upd H4 D (.lst (acc ++ [y]))) := by
  obtain ⟨⟨vs, e, p⟩, s1⟩ := P
  have l := p.length
  have e4 := s _ _ e
  have t : TupLe H4 (upd H4 D (.lst (vs ++ [y]))) := (TupLe.refl H4).list e4
  exact ⟨vs, e4, szlt (by omega), ⟨_, upd_same, P2.app (Paired.tl st ((TupLe.same s).trans t) p) (P2.one (st _ _ _ _ t hy))⟩, Rs.Same.mut (s1.trans s) hD⟩
theorem lcSkip (st : Stable S) (P : PvL S H1 D dn H') (s : Same H' H4) : PvL S H1 D dn H4 := ⟨P.1.same st s, P.2.trans s⟩
theorem take_fm {f : α → Option β} {xs : List α} {j : Nat} {x : α} (h : xs[j]? = some x) : (xs.take (j + 1)).filterMap f = (xs.take j).filterMap f ++ (f x).toList := by
  rw [List.take_succ, h, List.filterMap_append]
  cases hf : f x <;> simp [List.filterMap_cons, hf]
theorem range_fm {f : Nat → Option β} {j : Nat} : (List.range (j + 1)).filterMap f = (List.range j).filterMap f ++ (f j).toList := by
  rw [List.range_succ, List.filterMap_append]
  cases hf : f j <;> simp [List.filterMap_cons, hf]
/-- over a list -/
theorem lcm_list {K : PySem.W.Frag} {a : Addr} {vs : List V} {xs : List α} {g : TG} {tt : TT} {te : TE} {ws : List Nat} {σ : L2.St} {Qd : Hp → Prop} (f : α → Option β) (st : Stable S) (ha : H1 a = some (.lst vs)) (p : Paired (R H1) vs xs) (hD : H1 D = none)
    (turn : ∀ (j : Nat) (v : V) (x : α) (H' : Hp), xs[j]? = some x → vs[j]? = some v → R H1 v x → Same H1 H' → (∀ H4, Same H' H4 → f x = none → PvL S H1 D ((xs.take (j + 1)).filterMap f) H4) → (∀ H4 y b, Same H' H4 → f x = some b → S H4 y b → ∃ acc, H4 D = some (.lst acc) ∧ acc.length < sizeLine ∧ PvL S H1 D ((xs.take (j + 1)).filterMap f) (upd H4 D (.lst (acc ++ [y])))) →
      g v (wipe σ ws) H' fun σ2 H2 => wipe σ2 ws = wipe σ ws ∧ tt σ2 H2 fun b H3 => if b = true then te σ2 H3 fun y H4 => ∃ acc, H4 D = some (.lst acc) ∧ acc.length < sizeLine ∧ PvL S H1 D ((xs.take (j + 1)).filterMap f) (upd H4 D (.lst (acc ++ [y]))) else PvL S H1 D ((xs.take (j + 1)).filterMap f) H3)
    (hl : xs.length < 100000) (done : ∀ H', Lst S H' D (xs.filterMap f) → Same H1 H' → Qd H') :
    ∃ W : Nat → Nat → Hp → Prop, (∃ m, W 0 m (upd H1 D (.lst []))) ∧ ∀ i m H, W i m H →
      ((Itl K a).stop i H ∧ Qd H) ∨ ((Itl K a).go i H ∧ ∃ Nx : Hp → Prop, (∀ H', Nx H' → ∃ m', m' < m ∧ W (i + 1) m' H') ∧ ∀ x H', (Itl K a).yld i H x H' → g x (wipe σ ws) H' fun σ2 H2 => wipe σ2 ws = wipe σ ws ∧ tt σ2 H2 fun b H3 =>
        if b = true then te σ2 H3 fun y H4 => ∃ acc, H4 D = some (.lst acc) ∧ acc.length < sizeLine ∧ Nx (upd H4 D (.lst (acc ++ [y]))) else Nx H3) := by
  have lp := p.length
  refine lc_list (K := K) (a := a) (xs := vs) (fun j H' => PvL S H1 D ((xs.take j).filterMap f) H') (lcStart hD) ?_ ?_ ?_
  · rintro j H' _ ⟨_, s⟩
    exact SqL.of (s _ _ ha)
  · rintro j v H' hj P
    obtain ⟨x, hx, r⟩ := P2.get p hj
    have hb : ((xs.take j).filterMap f).length < 100000 := by
      have := List.length_filterMap_le f (xs.take j)
      rw [List.length_take] at this
      omega
    refine turn j v x H' hx hj r P.2 (fun H4 s hf => ?_) (fun H4 y b s hf hy => ?_)
    · rw [take_fm hx, hf, Option.toList_none, List.append_nil]
      exact lcSkip st P s
    · rw [take_fm hx, hf]
      exact lcPut st hD P s hy hb
  · rintro H' ⟨L, s⟩
    rw [List.take_of_length_le (by omega)] at L
    exact done H' L s
/-- over range(lo, ..) -/
theorem lcm_range {lo : Int} {n : Nat} {g : TG} {tt : TT} {te : TE} {ws : List Nat} {σ : L2.St} {Qd : Hp → Prop} (f : Nat → Option β) (st : Stable S) (hD : H1 D = none) (hn : n < 100000)
    (turn : ∀ (j : Nat) (H' : Hp), j < n → Same H1 H' → (∀ H4, Same H' H4 → f j = none → PvL S H1 D ((List.range (j + 1)).filterMap f) H4) → (∀ H4 y b, Same H' H4 → f j = some b → S H4 y b → ∃ acc, H4 D = some (.lst acc) ∧ acc.length < sizeLine ∧ PvL S H1 D ((List.range (j + 1)).filterMap f) (upd H4 D (.lst (acc ++ [y])))) →
      g (.int (lo + j)) (wipe σ ws) H' fun σ2 H2 => wipe σ2 ws = wipe σ ws ∧ tt σ2 H2 fun b H3 => if b = true then te σ2 H3 fun y H4 => ∃ acc, H4 D = some (.lst acc) ∧ acc.length < sizeLine ∧ PvL S H1 D ((List.range (j + 1)).filterMap f) (upd H4 D (.lst (acc ++ [y]))) else PvL S H1 D ((List.range (j + 1)).filterMap f) H3)
    (done : ∀ H', Lst S H' D ((List.range n).filterMap f) → Same H1 H' → Qd H') :
    ∃ W : Nat → Nat → Hp → Prop, (∃ m, W 0 m (upd H1 D (.lst []))) ∧ ∀ i m H, W i m H →
      ((Itr lo n).stop i H ∧ Qd H) ∨ ((Itr lo n).go i H ∧ ∃ Nx : Hp → Prop, (∀ H', Nx H' → ∃ m', m' < m ∧ W (i + 1) m' H') ∧ ∀ x H', (Itr lo n).yld i H x H' → g x (wipe σ ws) H' fun σ2 H2 => wipe σ2 ws = wipe σ ws ∧ tt σ2 H2 fun b H3 =>
        if b = true then te σ2 H3 fun y H4 => ∃ acc, H4 D = some (.lst acc) ∧ acc.length < sizeLine ∧ Nx (upd H4 D (.lst (acc ++ [y]))) else Nx H3) := by
  refine lc_range (fun j H' => PvL S H1 D ((List.range j).filterMap f) H') (lcStart hD) ?_ ?_
  · rintro j H' hj P
    have hb : ((List.range j).filterMap f).length < 100000 := by
      have := List.length_filterMap_le f (List.range j)
      rw [List.length_range] at this
      omega
    refine turn j H' hj P.2 (fun H4 s hf => ?_) (fun H4 y b s hf hy => ?_)
    · rw [range_fm, hf, Option.toList_none, List.append_nil]
      exact lcSkip st P s
    · rw [range_fm, hf]
      exact lcPut st hD P s hy hb
  · rintro H' ⟨L, s⟩
    exact done H' L s
end
/-! ### lists of numbers, pairs of numbers -/
theorem ints_paired {H : Hp} : ∀ ns : List Int, Paired (IntAt H) (ns.map V.int) ns
  | [] => .nil
  | n :: ns => .cons rfl (ints_paired ns)
theorem paired_ints {H : Hp} : ∀ {vs : List V} {ns : List Int}, Paired (IntAt H) vs ns → vs = ns.map V.int
  | _, _, .nil => rfl
  | _, _, .cons h t => by rw [List.map_cons, ← paired_ints t]; congr 1
theorem Lst.ints {H : Hp} {l : Addr} {ns : List Int} : Lst IntAt H l ns ↔ H l = some (.lst (ns.map V.int)) := ⟨fun ⟨vs, e, p⟩ => by rw [← paired_ints p]; exact e, fun e => ⟨_, e, ints_paired ns⟩⟩
def IIAt : Rel (Int × Int) := fun H v p => IsTp H v [.int p.1, .int p.2]
theorem IIAt.st : Stable IIAt := fun _ _ _ _ t h => IsTp.mono t h
theorem fm_some {α β : Type} {f : α → β} : ∀ {xs : List α}, xs.filterMap (fun x => some (f x)) = xs.map f
  | [] => rfl
  | x :: xs => by rw [List.filterMap_cons, List.map_cons, fm_some]
theorem fm_if {α β : Type} {p : α → Bool} {f : α → β} : ∀ {xs : List α}, xs.filterMap (fun x => if p x = true then some (f x) else none) = (xs.filter p).map f
  | [] => rfl
  | x :: xs => by
    rw [List.filterMap_cons, List.filter_cons]
    cases p x
    · simpa using fm_if
    · simp only [if_true, List.map_cons]
      rw [fm_if]
/-! ### plans -/
inductive Pl where
  | leaf (n : Int)
  | node (ps : List Pl)
instance : Inhabited Pl := ⟨.leaf 0⟩
mutual
def Pl.runs : Pl → List Int
  | .leaf n => [n]
  | .node ps => Pl.runsL ps
def Pl.runsL : List Pl → List Int
  | [] => []
  | p :: ps => p.runs ++ Pl.runsL ps
end
mutual
def Pl.fits (w : Nat) : Pl → Bool
  | .leaf _ => true
  | .node ps => (decide (2 ≤ ps.length) && decide (ps.length ≤ w)) && Pl.fitsL w ps
def Pl.fitsL (w : Nat) : List Pl → Bool
  | [] => true
  | p :: ps => p.fits w && Pl.fitsL w ps
end
mutual
def Pl.depth : Pl → Nat
  | .leaf _ => 0
  | .node ps => Pl.depthL ps + 1
def Pl.depthL : List Pl → Nat
  | [] => 0
  | p :: ps => max p.depth (Pl.depthL ps)
end
mutual
inductive PlAt (H : Hp) : V → Pl → Prop
  | leaf (n : Int) : PlAt H (.int n) (.leaf n)
  | node {a : Addr} {vs : List V} {ps : List Pl} : H a = some (.tup vs) → PlAll H vs ps → PlAt H (.ref a) (.node ps)
inductive PlAll (H : Hp) : List V → List Pl → Prop
  | nil : PlAll H [] []
  | cons {v : V} {p : Pl} {vs : List V} {ps : List Pl} : PlAt H v p → PlAll H vs ps → PlAll H (v :: vs) (p :: ps)
end
mutual
theorem PlAt.mono {H H' : Hp} (t : TupLe H H') : ∀ (p : Pl) (v : V), PlAt H v p → PlAt H' v p
  | .leaf n, _, h => by
    cases h
    exact .leaf n
  | .node ps, _, h => by
    cases h with
    | node e a => exact .node (t _ _ e) (PlAll.mono t ps _ a)
theorem PlAll.mono {H H' : Hp} (t : TupLe H H') : ∀ (ps : List Pl) (vs : List V), PlAll H vs ps → PlAll H' vs ps
  | [], _, h => by
    cases h
    exact .nil
  | p :: ps, _, h => by
    cases h with
    | cons a b => exact .cons (PlAt.mono t p _ a) (PlAll.mono t ps _ b)
end
def PlR : Rel Pl := PlAt
theorem PlR.st : Stable PlR := fun _ _ v p t h => PlAt.mono t p v h
theorem PlAll.of {H : Hp} : ∀ {vs : List V} {ps : List Pl}, Paired (PlR H) vs ps → PlAll H vs ps
  | _, _, .nil => .nil
  | _, _, .cons a b => .cons a (PlAll.of b)
theorem PlAll.to {H : Hp} : ∀ {vs : List V} {ps : List Pl}, PlAll H vs ps → Paired (PlR H) vs ps
  | _, _, .nil => .nil
  | _, _, .cons a b => .cons a (PlAll.to b)
theorem PlR.node {H : Hp} {a : Addr} {vs : List V} {ps : List Pl} (e : H a = some (.tup vs)) (p : Paired (PlR H) vs ps) : PlR H (.ref a) (.node ps) := PlAt.node e (PlAll.of p)
theorem PlR.unnode {H : Hp} {v : V} {ps : List Pl} (h : PlR H v (.node ps)) : ∃ a vs, v = .ref a ∧ H a = some (.tup vs) ∧ Paired (PlR H) vs ps := by
  cases h with
  | node e a => exact ⟨_, _, rfl, e, PlAll.to a⟩
theorem PlR.unleaf {H : Hp} {v : V} {n : Int} (h : PlR H v (.leaf n)) : v = .int n := by
  cases h
  rfl
theorem Pl.runsL_map (ps : List Pl) : Pl.runsL ps = (ps.map Pl.runs).flatten := by
  induction ps with
  | nil => rfl
  | cons p ps ih => rw [Pl.runsL, ih, List.map_cons, List.flatten_cons]
theorem Pl.fitsL_all {w : Nat} (ps : List Pl) : Pl.fitsL w ps = ps.all fun p => p.fits w := by
  induction ps with
  | nil => rfl
  | cons p ps ih => rw [Pl.fitsL, ih, List.all_cons]
theorem Pl.depthL_le {ps : List Pl} {p : Pl} (h : p ∈ ps) : p.depth ≤ Pl.depthL ps := by
  induction ps with
  | nil => simp at h
  | cons q ps ih =>
    rw [Pl.depthL]
    rcases List.mem_cons.mp h with e | e
    · rw [e]; omega
    · have := ih e; omega
mutual
theorem Pl.deep {w : Nat} : ∀ (p : Pl), p.fits w = true → p.depth + 1 ≤ p.runs.length
  | .leaf n, _ => by simp [Pl.depth, Pl.runs]
  | .node ps, h => by
    rw [Pl.fits] at h
    simp only [Bool.and_eq_true, decide_eq_true_eq] at h
    have := Pl.deepL ps h.2
    rw [Pl.depth, Pl.runs]
    omega
theorem Pl.deepL {w : Nat} : ∀ (ps : List Pl), Pl.fitsL w ps = true → Pl.depthL ps + ps.length ≤ (Pl.runsL ps).length
  | [], _ => by simp [Pl.depthL, Pl.runsL]
  | p :: ps, h => by
    rw [Pl.fitsL] at h
    simp only [Bool.and_eq_true] at h
    have a := Pl.deep p h.1
    have b := Pl.deepL ps h.2
    rw [Pl.depthL, Pl.runsL, List.length_append, List.length_cons]
    omega
end
/-! ### the least of (size, name) -/
def insL (x : Int × Int) : List (Int × Int) → List (Int × Int)
  | [] => [x]
  | y :: ys => if SrtO.lexB x y = true then x :: y :: ys else y :: insL x ys
def srtL : List (Int × Int) → List (Int × Int)
  | [] => []
  | x :: xs => insL x (srtL xs)
theorem insL_perm (x : Int × Int) : ∀ ys, (insL x ys).Perm (x :: ys)
  | [] => .refl _
  | y :: ys => by
    unfold insL
    split
    · exact .refl _
    · exact ((insL_perm x ys).cons y).trans (List.Perm.swap ..)
theorem srtL_perm : ∀ xs, (srtL xs).Perm xs
  | [] => .refl _
  | x :: xs => (insL_perm x (srtL xs)).trans ((srtL_perm xs).cons x)
def LeL (x y : Int × Int) : Prop := SrtO.lexB y x = false
theorem LeL.iff {x y : Int × Int} : LeL x y ↔ (x.1 < y.1 ∨ (x.1 = y.1 ∧ x.2 ≤ y.2)) := by
  unfold LeL
  rw [SrtO.lexB_no]
  omega
theorem insL_up {x : Int × Int} : ∀ {ys}, ys.Pairwise LeL → (insL x ys).Pairwise LeL
  | [], _ => by simp [insL]
  | y :: ys, h => by
    unfold insL
    obtain ⟨h1, h2⟩ := List.pairwise_cons.mp h
    split
    · rename_i c
      have c := SrtO.lexB_iff.mp c
      refine List.pairwise_cons.mpr ⟨fun z hz => ?_, h⟩
      rcases List.mem_cons.mp hz with e | e
      · rw [e, LeL.iff]; omega
      · have := LeL.iff.mp (h1 z e)
        rw [LeL.iff]; omega
    · rename_i c
      have c : SrtO.lexB x y = false := by simpa using c
      refine List.pairwise_cons.mpr ⟨fun z hz => ?_, insL_up h2⟩
      rcases List.mem_cons.mp ((insL_perm x ys).mem_iff.mp hz) with e | e
      · rw [e]; exact c
      · exact h1 z e
theorem srtL_up : ∀ xs, (srtL xs).Pairwise LeL
  | [] => .nil
  | x :: xs => insL_up (srtL_up xs)
/-- two sorted arrangements are one -/
theorem srtL_one : ∀ {xs ys : List (Int × Int)}, xs.Perm ys → xs.Pairwise LeL → ys.Pairwise LeL → xs = ys
  | [], ys, p, _, _ => p.nil_eq
  | x :: xs, [], p, _, _ => absurd p.symm.nil_eq (by simp)
  | x :: xs, y :: ys, p, a, b => by
    have e : x = y := by
      have hx : x ∈ y :: ys := p.mem_iff.mp (List.mem_cons_self ..)
      have hy : y ∈ x :: xs := p.mem_iff.mpr (List.mem_cons_self ..)
      rcases List.mem_cons.mp hx with h | h
      · exact h
      · rcases List.mem_cons.mp hy with h' | h'
        · exact h'.symm
        · have b1 := LeL.iff.mp (List.rel_of_pairwise_cons b h)
          have a1 := LeL.iff.mp (List.rel_of_pairwise_cons a h')
          exact Prod.ext (by omega) (by omega)
    subst e
    rw [srtL_one p.cons_inv (List.Pairwise.of_cons a) (List.Pairwise.of_cons b)]
theorem srtL_len (xs : List (Int × Int)) : (srtL xs).length = xs.length := (srtL_perm xs).length_eq
/-- how many are merged first -/
def hm (left w : Nat) : Nat := 2 + (left - 2) % (w - 1)
theorem hm_le {left w : Nat} (h : 2 ≤ left) (hw : 2 ≤ w) : 2 ≤ hm left w ∧ hm left w ≤ left ∧ hm left w ≤ w := by
  unfold hm
  have a := Nat.mod_le (left - 2) (w - 1)
  have b := Nat.mod_lt (left - 2) (by omega : 0 < w - 1)
  omega
def leastN (rows : List (Int × Int)) (w : Nat) : List Int := ((srtL rows).take (hm rows.length w)).map (·.2)
end Rs

namespace Rs
open PySem PySem.Spec PyProof.Rows L2
abbrev N_need_lengths : List Str := ["lengths", "length"]
abbrev P_need_lengths : List Str := ["lengths"]
structure GoodLens (ls : List Int) : Prop where
  pos : 1 ≤ ls.length
  le : ls.length ≤ 40
  all : ∀ x ∈ ls, 1 ≤ x ∧ x ≤ 1000000
def sp_need_lengths (K : PySem.W.Frag) : Sp := fun vs H Q E => match vs with
  | [lv] => ∃ l ls, lv = .ref l ∧ H l = some (.lst (ls.map V.int)) ∧ GoodLens ls ∧ ∀ H', Same H H' → Q .non H'
  | _ => False
def t_need_lengths (K : PySem.W.Frag) (E : XK) : TS := (tSeq (tIfS (tNot (tTest (tChain xLe xLe (tC (.int 1)) (tCB1 (xLen K) (tVar 0)) (tC (.int 40))))) tNever tNext)
  (tIfS (tTest (tOp (xNeE K) (tLc (iList K (tVar 0)) (gName 1) (tNot (tTest (tChain xLe xLe (tC (.int 1)) (tVar 1) (tC (.int 1000000))))) (tVar 1) [1]) (tLst tNil))) tNever tNext))
theorem pure_need_lengths {K : PySem.W.Frag} : ∀ vs H Q E, sp_need_lengths K vs H Q E → t_need_lengths K E { nx := fun _ H' => Q .non H', rt := Q } (start N_need_lengths vs) H := by
  intro vs H Q E h
  match vs, h with
  | [lv], h =>
    obtain ⟨l, ls, rfl, hl, g, k⟩ := h
    have g1 := g.pos
    have g4 := g.le
    refine ⟨_, rfl, lenL hl rfl ⟨_, _, rfl, rfl, _, rfl, ?_⟩⟩
    rw [List.length_map, decide_eq_true (show (1 : Int) ≤ (ls.length : Int) by omega)]
    refine ⟨_, _, rfl, rfl, _, rfl, ?_⟩
    rw [decide_eq_true (show (ls.length : Int) ≤ 40 by omega)]
    refine ⟨_, rfl, l, rfl, ⟨_, SqL.of hl⟩, fun D hD => ?_⟩
    refine lcm_list (S := IntAt) (fun _ => none) IntAt.st hl (ints_paired ls) hD ?_ (by omega) ?_
    · intro j v x H' hx hj r s skip put
      have e : v = .int x := r
      subst e
      have gx := g.all x (List.mem_of_getElem? hx)
      refine ⟨rfl, _, rfl, _, _, rfl, rfl, _, rfl, ?_⟩
      rw [decide_eq_true gx.1]
      refine ⟨_, _, rfl, rfl, _, rfl, ?_⟩
      rw [decide_eq_true gx.2]
      exact skip H' (Same.refl _) rfl
    · intro H2 L s
      obtain ⟨vs, e, p⟩ := L
      have el : vs.length = 0 := by rw [p.length]; simp
      refine ⟨sz0, fun q hq => neE e hq (b := false) (by rw [List.eq_nil_of_length_eq_zero el]; rfl) ⟨_, rfl, ?_⟩⟩
      exact k _ (s.trans (Rs.Same.new hq))
abbrev N_need_ways : List Str := ["ways"]
abbrev P_need_ways : List Str := ["ways"]
def sp_need_ways (K : PySem.W.Frag) : Sp := fun vs H Q E => match vs with
  | [wv] => ∃ w, wv = .int w ∧ 2 ≤ w ∧ w ≤ 6 ∧ ∀ H', Same H H' → Q .non H'
  | _ => False
def t_need_ways (K : PySem.W.Frag) (E : XK) : TS := (tIfS (tNot (tTest (tChain xLe xLe (tC (.int 2)) (tVar 0) (tC (.int 6))))) tNever tNext)
theorem pure_need_ways {K : PySem.W.Frag} : ∀ vs H Q E, sp_need_ways K vs H Q E → t_need_ways K E { nx := fun _ H' => Q .non H', rt := Q } (start N_need_ways vs) H := by
  intro vs H Q E h
  match vs, h with
  | [wv], h =>
    obtain ⟨w, rfl, h1, h2, k⟩ := h
    refine ⟨_, rfl, _, _, rfl, rfl, _, rfl, ?_⟩
    rw [decide_eq_true h1]
    refine ⟨_, _, rfl, rfl, _, rfl, ?_⟩
    rw [decide_eq_true h2]
    exact k _ (Same.refl H)
abbrev N_how_many : List Str := ["left", "ways"]
abbrev P_how_many : List Str := ["left", "ways"]
def sp_how_many (K : PySem.W.Frag) : Sp := fun vs H Q E => match vs with
  | [lv, wv] => ∃ l w : Nat, lv = .int (l : Int) ∧ wv = .int (w : Int) ∧ 2 ≤ l ∧ 2 ≤ w ∧ Q (.int ((hm l w : Nat) : Int)) H
  | _ => False
def t_how_many (K : PySem.W.Frag) (E : XK) : TS := (tRet (tOpD xAdd (.int 2) (tOp xMod (tOpC xSub (tVar 0) (.int 2)) (tOpC xSub (tVar 1) (.int 1)))))
theorem pure_how_many {K : PySem.W.Frag} : ∀ vs H Q E, sp_how_many K vs H Q E → t_how_many K E { nx := fun _ H' => Q .non H', rt := Q } (start N_how_many vs) H := by
  intro vs H Q E h
  match vs, h with
  | [lv, wv], h =>
    obtain ⟨l, w, rfl, rfl, h1, h2, k⟩ := h
    refine ⟨_, rfl, _, _, rfl, rfl, _, rfl, _, _, rfl, rfl, _, _, rfl, rfl, by show (0 : Int) < _; omega, _, _, rfl, rfl, ?_⟩
    have e : (2 + ((l : Int) - 2) % ((w : Int) - 1)) = ((hm l w : Nat) : Int) := by
      unfold hm
      have a : ((l : Int) - 2) = ((l - 2 : Nat) : Int) := by omega
      have b : ((w : Int) - 1) = ((w - 1 : Nat) : Int) := by omega
      rw [a, b]
      omega
    show Q (.int (2 + ((l : Int) - 2) % ((w : Int) - 1))) H
    rw [e]
    exact k
abbrev N_least_runs : List Str := ["rows", "ways", "size", "name"]
abbrev P_least_runs : List Str := ["rows", "ways"]
/-- the two numbers at a value -/
def pairI (H : Hp) : V → Int × Int
  | .ref t => match H t with
    | some (.tup [.int a, .int b]) => (a, b)
    | _ => (0, 0)
  | _ => (0, 0)
theorem pairI_of {H : Hp} {v : V} {p : Int × Int} (h : IIAt H v p) : pairI H v = p := by
  obtain ⟨a, rfl, e⟩ := h
  show (match H a with
    | some (.tup [.int a, .int b]) => (a, b)
    | _ => (0, 0)) = p
  rw [e]
def sp_least_runs (K : PySem.W.Frag) : Sp := fun vs H Q E => match vs with
  | [rv, wv] => ∃ lr rows w, rv = .ref lr ∧ Lst IIAt H lr rows ∧ wv = .int ((w : Nat) : Int) ∧ 2 ≤ w ∧ 2 ≤ rows.length ∧ rows.length ≤ 1000 ∧ ∀ l H', H l = none → H' l = some (.lst ((leastN rows w).map V.int)) → Same H H' → Q (.ref l) H'
  | _ => False
def t_least_runs (K : PySem.W.Frag) (E : XK) : TS := (tRet (tLc (iList K (tSl (rSlL K) (tCB1 (rSortedPO K) (tVar 0)) tNoPart (tPart (tCall (sp_how_many K) [] E (tCons (tCB1 (xLen K) (tVar 0)) (tCons (tVar 1) tNil)))))) (gTup K 2 (gCons (gName 2) (gCons (gName 3) gNil))) tYes (tVar 3) [2, 3]))
theorem pure_least_runs {K : PySem.W.Frag} : ∀ vs H Q E, sp_least_runs K vs H Q E → t_least_runs K E { nx := fun _ H' => Q .non H', rt := Q } (start N_least_runs vs) H := by
  intro vs H Q E h
  match vs, h with
  | [rv, wv], h =>
    obtain ⟨lr, rows, w, rfl, ⟨xv, ex, px⟩, rfl, hw, h2, hlen, k⟩ := h
    have lx := px.length
    refine ⟨_, rfl, lr, xv, pairI H, rfl, SqL.of ex, fun x hx => ?_, fun ys p hs hp hnp => ?_⟩
    · obtain ⟨q, hq, r⟩ := paired_mem px hx
      obtain ⟨t, rfl, et⟩ := id r
      refine ⟨t, rfl, ?_⟩
      rw [pairI_of r]
      exact et
    have kmap : ∀ {vs : List V} {rs : List (Int × Int)}, Paired (IIAt H) vs rs → vs.map (pairI H) = rs := fun {vs rs} q => by
      induction q with
      | nil => rfl
      | cons a b ih => rw [List.map_cons, ih, pairI_of a]
    have ey : ys.map (pairI H) = srtL rows := by
      refine srtL_one ?_ ?_ (srtL_up rows)
      · have := hp.perm.map (pairI H)
        rw [kmap px] at this
        exact this.trans (srtL_perm rows).symm
      · rw [List.pairwise_map]
        exact hs
    have py : Paired (IIAt H) ys (srtL rows) := by
      rw [← ey]
      have all : ∀ y ∈ ys, IIAt H y (pairI H y) := fun y hy => by
        obtain ⟨q, hq, r⟩ := paired_mem px (hp.perm.mem_iff.mp hy)
        rw [pairI_of r]
        exact r
      clear hs hp ey k
      induction ys with
      | nil => exact .nil
      | cons y ys ih => exact .cons (all y (List.mem_cons_self ..)) (ih fun z hz => all z (List.mem_cons_of_mem _ hz))
    have s1 : Same H (upd H p (.lst ys)) := Rs.Same.new hnp
    have ep : upd H p (.lst ys) p = some (.lst ys) := upd_same
    have ly := py.length
    rw [srtL_len] at ly
    have hmb := hm_le h2 hw
    refine ⟨_, rfl, lenL (s1 _ _ ex) rfl ⟨_, rfl, ?_⟩⟩
    refine ⟨rows.length, w, by rw [← lx], rfl, h2, hw, ⟨_, rfl, p, ys, rfl, SqL.of ep, fun q hq => ?_⟩⟩
    have e1 : cutV ys none (some ((hm rows.length w : Nat) : Int)) = ys.take (hm rows.length w) := cut_to (by omega)
    rw [e1]
    have s2 : Same H (upd (upd H p (.lst ys)) q (.lst (ys.take (hm rows.length w)))) := s1.trans (Rs.Same.new hq)
    have eq2 : upd (upd H p (.lst ys)) q (.lst (ys.take (hm rows.length w))) q = some _ := upd_same
    generalize upd (upd H p (.lst ys)) q (.lst (ys.take (hm rows.length w))) = H2 at s2 eq2 ⊢
    refine ⟨q, rfl, ⟨_, SqL.of eq2⟩, fun D hD => ?_⟩
    refine lcm_list (S := IntAt) (fun r : Int × Int => some r.2) IntAt.st eq2 (P2.take _ (Paired.tl IIAt.st (TupLe.same s2) py)) hD ?_ ?_ ?_
    · intro j v x H' hx hj r s skip put
      obtain ⟨t, rfl, et⟩ := r
      refine ⟨t, _, rfl, SqT.of (s _ _ et), rfl, _, _, rfl, _, _, rfl, rfl, rfl, lc_yes ⟨_, rfl, put H' _ _ (Same.refl _) rfl rfl⟩⟩
    · rw [List.length_take]
      omega
    · intro H3 L s3
      rw [fm_some] at L
      exact k D H3 (s2.free hD) (Lst.ints.mp L) (s2.trans s3)
end Rs

namespace Rs
open PySem PySem.Spec PyProof.Rows L2
/-! ### the cheapest plan, by the program's own going -/
def lookP (plans : List (Int × Pl)) (n : Int) : Pl := ((plans.find? fun q => decide (q.1 = n)).map (·.2)).getD (.leaf 0)
def cSome (w : Nat) (rows : List (Int × Int)) : List Int := leastN rows w
def cSize (w : Nat) (rows : List (Int × Int)) : Int := ((rows.filter fun r => decide (r.2 ∈ leastN rows w)).map (·.1)).sum
def cRows (n w : Nat) (rows : List (Int × Int)) (plans : List (Int × Pl)) : List (Int × Int) := (rows.filter fun r => decide (r.2 ∉ leastN rows w)) ++ [(cSize w rows, (n : Int) + plans.length)]
def cPlans (n w : Nat) (rows : List (Int × Int)) (plans : List (Int × Pl)) : List (Int × Pl) := plans ++ [((n : Int) + plans.length, .node ((leastN rows w).map (lookP plans)))]
def cgo (n w : Nat) : Nat → List (Int × Int) → List (Int × Pl) → Int → Int × Pl
  | 0, rows, plans, found => (found, lookP plans (rows.getD 0 (0, 0)).2)
  | m + 1, rows, plans, found => if 1 < rows.length then cgo n w m (cRows n w rows plans) (cPlans n w rows plans) (found + cSize w rows) else (found, lookP plans (rows.getD 0 (0, 0)).2)
def rows0 (ls : List Int) : List (Int × Int) := (List.range ls.length).map fun (i : Nat) => (ls.getD i 0, (i : Int))
def plans0 (n : Nat) : List (Int × Pl) := (List.range n).map fun (i : Nat) => ((i : Int), Pl.leaf (i : Int))
def cheapL (ls : List Int) (w : Nat) : Int × Pl := cgo ls.length w ls.length (rows0 ls) (plans0 ls.length) 0
structure CInv (n : Nat) (rows : List (Int × Int)) (plans : List (Int × Pl)) : Prop where
  names : ∀ r ∈ rows, ∃ q ∈ plans, q.1 = r.2
  lt : ∀ q ∈ plans, q.1 < (n : Int) + plans.length
  nd : (rows.map (·.2)).Nodup
theorem least_sub {w : Nat} {rows : List (Int × Int)} : ∀ x ∈ leastN rows w, ∃ r ∈ rows, r.2 = x := fun x hx => by
  obtain ⟨r, hr, e⟩ := List.mem_map.mp hx
  exact ⟨r, (srtL_perm rows).mem_iff.mp (List.mem_of_mem_take hr), e⟩
theorem least_nd {w : Nat} {rows : List (Int × Int)} (nd : (rows.map (·.2)).Nodup) : (leastN rows w).Nodup := by
  unfold leastN
  have : ((srtL rows).map (·.2)).Nodup := ((srtL_perm rows).map (·.2)).nodup_iff.mpr nd
  rw [List.map_take]
  exact this.sublist (List.take_sublist _ _)
theorem least_len {w : Nat} {rows : List (Int × Int)} (h : 2 ≤ rows.length) (hw : 2 ≤ w) : (leastN rows w).length = hm rows.length w := by
  unfold leastN
  have := hm_le h hw
  rw [List.length_map, List.length_take, srtL_len]
  omega
theorem nd_inj {rows : List (Int × Int)} (nd : (rows.map (·.2)).Nodup) : ∀ {a b}, a ∈ rows → b ∈ rows → a.2 = b.2 → a = b := by
  induction rows with
  | nil => intro a b h; simp at h
  | cons r rows ih =>
    rw [List.map_cons, List.nodup_cons] at nd
    intro a b ha hb e
    rcases List.mem_cons.mp ha with ea | ha
    · rcases List.mem_cons.mp hb with eb | hb
      · rw [ea, eb]
      · exact absurd (by rw [← ea, e]; exact List.mem_map_of_mem hb) nd.1
    · rcases List.mem_cons.mp hb with eb | hb
      · exact absurd (by rw [← eb, ← e]; exact List.mem_map_of_mem ha) nd.1
      · exact ih nd.2 ha hb e
/-- the rows that are merged are the least ones -/
theorem least_rows {w : Nat} {rows : List (Int × Int)} (nd : (rows.map (·.2)).Nodup) : (rows.filter fun r => decide (r.2 ∈ leastN rows w)).Perm ((srtL rows).take (hm rows.length w)) := by
  have p := srtL_perm rows
  have nd2 : ((srtL rows).map (·.2)).Nodup := (p.map (·.2)).nodup_iff.mpr nd
  refine (p.symm.filter _).trans ?_
  have key : ∀ (m : Nat) (xs : List (Int × Int)), (xs.map (·.2)).Nodup → xs.filter (fun r => decide (r.2 ∈ (xs.take m).map (·.2))) = xs.take m := by
    intro m xs nd
    conv => lhs; rw [← List.take_append_drop m xs]
    rw [List.filter_append]
    have a : (xs.take m).filter (fun r => decide (r.2 ∈ ((xs.take m ++ xs.drop m).take m).map (·.2))) = xs.take m := by
      rw [List.take_append_drop, List.filter_eq_self]
      intro r hr
      exact decide_eq_true (List.mem_map_of_mem hr)
    have b : (xs.drop m).filter (fun r => decide (r.2 ∈ ((xs.take m ++ xs.drop m).take m).map (·.2))) = [] := by
      rw [List.take_append_drop, List.filter_eq_nil_iff]
      intro r hr h
      have h := of_decide_eq_true h
      rw [← List.take_append_drop m xs, List.map_append] at nd
      exact (List.nodup_append.mp nd).2.2 _ h _ (List.mem_map_of_mem hr) rfl
    rw [a, b, List.append_nil]
  rw [show leastN rows w = ((srtL rows).take (hm rows.length w)).map (·.2) from rfl, key _ _ nd2]
theorem filter_split {α : Type} (p : α → Bool) : ∀ xs : List α, (xs.filter p).length + (xs.filter fun x => !p x).length = xs.length
  | [] => rfl
  | x :: xs => by
    have ih := filter_split p xs
    rw [List.filter_cons, List.filter_cons]
    cases p x <;> simp <;> omega
theorem not_mem_dec {x : Int} {l : List Int} : decide (x ∉ l) = !decide (x ∈ l) := by
  by_cases h : x ∈ l
  · rw [decide_eq_true h, decide_eq_false (fun z => z h)]; rfl
  · rw [decide_eq_false h, decide_eq_true h]; rfl
theorem CInv.rows_len {n w : Nat} {rows : List (Int × Int)} {plans : List (Int × Pl)} (I : CInv n rows plans) (h : 2 ≤ rows.length) (hw : 2 ≤ w) : (cRows n w rows plans).length + hm rows.length w = rows.length + 1 := by
  have p := (least_rows (w := w) I.nd).length_eq
  have b := hm_le h hw
  rw [List.length_take, srtL_len] at p
  have s := filter_split (fun r : Int × Int => decide (r.2 ∈ leastN rows w)) rows
  unfold cRows
  rw [List.length_append, List.length_singleton]
  have e : (rows.filter fun r => decide (r.2 ∉ leastN rows w)) = rows.filter fun r => !decide (r.2 ∈ leastN rows w) := by
    congr 1
    funext r
    exact not_mem_dec
  rw [e]
  omega
theorem CInv.step {n w : Nat} {rows : List (Int × Int)} {plans : List (Int × Pl)} (I : CInv n rows plans) : CInv n (cRows n w rows plans) (cPlans n w rows plans) := by
  refine ⟨fun r hr => ?_, fun q hq => ?_, ?_⟩
  · unfold cRows at hr
    rcases List.mem_append.mp hr with z | z
    · obtain ⟨q, hq, e⟩ := I.names r (List.mem_filter.mp z).1
      exact ⟨q, List.mem_append_left _ hq, e⟩
    · rw [List.mem_singleton] at z
      exact ⟨_, List.mem_append_right _ (List.mem_singleton.mpr rfl), by rw [z]⟩
  · unfold cPlans at hq ⊢
    rw [List.length_append, List.length_singleton]
    rcases List.mem_append.mp hq with z | z
    · have := I.lt q z
      omega
    · rw [List.mem_singleton] at z
      rw [z]
      show (n : Int) + plans.length < _
      omega
  · unfold cRows
    rw [List.map_append]
    refine List.nodup_append.mpr ⟨I.nd.sublist ((List.filter_sublist).map _), by simp, fun x hx y hy e => ?_⟩
    obtain ⟨r, hr, rfl⟩ := List.mem_map.mp hx
    obtain ⟨q, hq, e2⟩ := I.names r (List.mem_filter.mp hr).1
    have := I.lt q hq
    have ey : y = (n : Int) + plans.length := by simpa using hy
    omega
theorem find_none {plans : List (Int × Pl)} {x : Int} (h : ∀ q ∈ plans, q.1 ≠ x) : plans.find? (fun q => decide (q.1 = x)) = none := by
  rw [List.find?_eq_none]
  intro q hq
  simpa using h q hq
theorem find_some {plans : List (Int × Pl)} {x : Int} (h : ∃ q ∈ plans, q.1 = x) : ∃ q, plans.find? (fun q => decide (q.1 = x)) = some q ∧ q ∈ plans ∧ q.1 = x := by
  cases e : plans.find? (fun q => decide (q.1 = x)) with
  | none =>
    obtain ⟨q, hq, e2⟩ := h
    have := List.find?_eq_none.mp e q hq
    simp [e2] at this
  | some q => exact ⟨q, rfl, List.mem_of_find?_eq_some e, by simpa using List.find?_some e⟩
/-! ### the plans as a dict -/
def PKv (H : Hp) : List (Key × V) → List (Int × Pl) → Prop := Paired fun kv q => kv.1 = Sum.inl q.1 ∧ PlR H kv.2 q.2
theorem PKv.mono {H H' : Hp} (t : TupLe H H') {kvs : List (Key × V)} {plans : List (Int × Pl)} (h : PKv H kvs plans) : PKv H' kvs plans := P2.mono (fun _ _ ⟨a, b⟩ => ⟨a, PlR.st _ _ _ _ t b⟩) h
theorem PKv.find {H : Hp} {kvs : List (Key × V)} {plans : List (Int × Pl)} (h : PKv H kvs plans) (x : Int) : (plans.find? (fun q => decide (q.1 = x)) = none → valV kvs (Sum.inl x) = none) ∧ ∀ q, plans.find? (fun q => decide (q.1 = x)) = some q → ∃ v, valV kvs (Sum.inl x) = some v ∧ PlR H v q.2 := by
  induction h with
  | nil => exact ⟨fun _ => rfl, fun q h => by simp at h⟩
  | @cons kv q l m a b ih =>
    obtain ⟨a1, a2⟩ := a
    by_cases e : q.1 = x
    · have ek : kv.1 = Sum.inl x := by rw [a1, e]
      rw [List.find?_cons, decide_eq_true e]
      refine ⟨fun z => (by cases z), fun q' z => ?_⟩
      have z : q = q' := by simpa using z
      subst z
      exact ⟨kv.2, valV_pos ek, a2⟩
    · have ek : ¬ kv.1 = Sum.inl x := fun z => e (by rw [a1] at z; injection z)
      rw [List.find?_cons, decide_eq_false e, valV_neg ek]
      exact ih
theorem PKv.look {H : Hp} {kvs : List (Key × V)} {plans : List (Int × Pl)} (h : PKv H kvs plans) {x : Int} (hx : ∃ q ∈ plans, q.1 = x) : ∃ v, valV kvs (Sum.inl x) = some v ∧ PlR H v (lookP plans x) := by
  obtain ⟨q, e, _, _⟩ := find_some hx
  obtain ⟨v, a, b⟩ := (h.find x).2 q e
  refine ⟨v, a, ?_⟩
  unfold lookP
  rw [e]
  exact b
/-! ### dict(pairs) with no key twice -/
theorem mergeK_app : ∀ (more kvs : List (Key × V)), (more.map (·.1)).Nodup → (∀ p ∈ more, valV kvs p.1 = none) → mergeK kvs more = kvs ++ more
  | [], kvs, _, _ => by simp [mergeK]
  | p :: more, kvs, nd, h => by
    rw [List.map_cons, List.nodup_cons] at nd
    have e : mergeK kvs (p :: more) = mergeK (putK kvs p.1 p.2) more := rfl
    rw [e, putK_new _ (h p (List.mem_cons_self ..)), mergeK_app more _ nd.2 fun q hq => ?_]
    · simp
    · rw [valV_snoc _ _ _ _ (h p (List.mem_cons_self ..)), if_neg (fun z => nd.1 (by rw [← z]; exact List.mem_map_of_mem hq))]
      exact h q (List.mem_cons_of_mem _ hq)
theorem refs_of {α : Type} {F : α → List V} {H : Hp} : ∀ {vs : List V} {xs : List α}, Paired (fun v x => IsTp H v (F x)) vs xs → ∃ ps : List Addr, vs = ps.map V.ref ∧ Paired (fun p x => H p = some (.tup (F x))) ps xs
  | _, _, .nil => ⟨[], rfl, .nil⟩
  | _, _, .cons ⟨a, e, h⟩ t => by
    obtain ⟨ps, e2, p⟩ := refs_of t
    exact ⟨a :: ps, by rw [e, e2]; rfl, .cons h p⟩
theorem inV_int {x : Int} : ∀ {l : List Int}, inV (.int x) (l.map V.int) = decide (x ∈ l)
  | [] => rfl
  | y :: l => by
    have ih := inV_int (x := x) (l := l)
    unfold inV at ih ⊢
    rw [List.map_cons, List.any_cons, ih]
    show ((y == x) || decide (x ∈ l)) = _
    by_cases e : y = x
    · subst e
      simp
    · have : (y == x) = false := by simpa using e
      rw [this, Bool.false_or]
      by_cases h : x ∈ l
      · rw [decide_eq_true h, decide_eq_true (List.mem_cons_of_mem _ h)]
      · rw [decide_eq_false h, decide_eq_false fun z => by rcases List.mem_cons.mp z with z | z; exact e z.symm; exact h z]
theorem flat_ints : ∀ l : List Int, (l.map V.int).all flatV = true
  | [] => rfl
  | x :: l => by
    rw [List.map_cons, List.all_cons, flat_ints l]
    rfl
abbrev N_cheapest : List Str := ["lengths", "ways", "plans", "rows", "found", "some", "size", "name", "run", "one", "row"]
abbrev P_cheapest : List Str := ["lengths", "ways"]
def sp_cheapest (K : PySem.W.Frag) : Sp := fun vs H Q E => match vs with
  | [lv, wv] => ∃ (l : Addr) (ls : List Int) (w : Nat), lv = .ref l ∧ H l = some (.lst (ls.map V.int)) ∧ GoodLens ls ∧ wv = .int (w : Int) ∧ 2 ≤ w ∧ w ≤ 6 ∧
    ∀ t v H', H t = none → H' t = some (.tup [.int (cheapL ls w).1, v]) → PlR H' v (cheapL ls w).2 → Same H H' → Q (.ref t) H'
  | _ => False
def t_cheapest (K : PySem.W.Frag) (E : XK) : TS := (tSeq (tDrop (tCall (sp_need_lengths K) [] E (tCons (tVar 0) tNil)))
  (tSeq (tDrop (tCall (sp_need_ways K) [] E (tCons (tVar 1) tNil)))
   (tSeq (tAsg (tCB1 (xDictP K) (tLc (iRng1 (tCons (tCB1 (xLen K) (tVar 0)) tNil)) (gName 8) tYes (tTup (tCons (tVar 8) (tCons (tVar 8) tNil))) [8])) (gName 2))
    (tSeq (tAsg (tLc (iRng1 (tCons (tCB1 (xLen K) (tVar 0)) tNil)) (gName 8) tYes (tTup (tCons (tOp (rIxL K) (tVar 0) (tVar 8)) (tCons (tVar 8) tNil))) [8]) (gName 3))
     (tSeq (tAsg (tC (.int 0)) (gName 4))
      (tSeq (tWhile (tTest (tOpC xGt (tCB1 (xLen K) (tVar 3)) (.int 1))) 
         (tSeq (tAsg (tCall (sp_least_runs K) [] E (tCons (tVar 3) (tCons (tVar 1) tNil))) (gName 5))
         (tSeq (tAsg (tCB1 (rSum K) (tLc (iList K (tVar 3)) (gTup K 2 (gCons (gName 9) (gCons (gName 7) gNil))) (tTest (tOp (rIn K false) (tVar 7) (tVar 5))) (tVar 9) [9, 7])) (gName 6))
          (tSeq (tAsg (tOp xAdd (tCB1 (xLen K) (tVar 0)) (tCB1 xLenD (tVar 2))) (gName 7))
           (tSeq (sDPut (tVar 2) (tVar 7) (tCB1 (xTuple K) (tLc (iList K (tVar 5)) (gName 9) tYes (tDGet (tVar 2) (tVar 9)) [9])))
            (tSeq (tAsg (tOp rCat (tLc (iList K (tVar 3)) (gName 10) (tTest (tOp (rIn K true) (tOpC (rIxT K) (tVar 10) (.int 1)) (tVar 5))) (tVar 10) [10]) (tLst (tCons (tTup (tCons (tVar 6) (tCons (tVar 7) tNil))) tNil))) (gName 3))
             (tAsg (tOp xAdd (tVar 4) (tVar 6)) (gName 4))))))))
       (tRet (tTup (tCons (tVar 4) (tCons (tDGet (tVar 2) (tOpC (rIxT K) (tOpC (rIxL K) (tVar 3) (.int 0)) (.int 1))) tNil))))))))))
theorem pure_cheapest {K : PySem.W.Frag} : ∀ vs H Q E, sp_cheapest K vs H Q E → t_cheapest K E { nx := fun _ H' => Q .non H', rt := Q } (start N_cheapest vs) H := by
  intro vs H Q E h
  match vs, h with
  | [lv, wv], h =>
    obtain ⟨l, ls, w, rfl, hl, g, rfl, w2, w6, k⟩ := h
    have g1 := g.pos
    have g4 := g.le
    refine ⟨_, rfl, l, ls, rfl, hl, g, fun H1 s1 => ?_⟩
    refine ⟨_, rfl, _, rfl, by omega, by omega, fun H2 s2 => ?_⟩
    have s02 := s1.trans s2
    have hl2 := s02 _ _ hl
    have en : (((ls.map V.int).length : Nat) : Int).toNat = ls.length := by rw [List.length_map]; omega
    -- plans
    refine ⟨_, rfl, lenL hl2 rfl ⟨_, rfl, by omega, by rw [List.length_map]; omega, fun D hD => ?_⟩⟩
    rw [en]
    refine lcm_range (lo := 0) (n := ls.length) (S := IIAt) (fun j => some (0 + (j : Int), 0 + (j : Int))) IIAt.st hD (by omega) ?_ ?_
    · intro j H' hj s skip put
      exact ⟨rfl, lc_yes ⟨_, rfl, _, rfl, szle (by show 2 ≤ 100000; decide), fun t ht => put _ _ _ (Rs.Same.new ht) rfl ⟨t, rfl, upd_same⟩⟩⟩
    intro H3 L3 s3
    rw [fm_some] at L3
    obtain ⟨dv, ed, pd⟩ := L3
    obtain ⟨ps, rfl, pp⟩ := refs_of pd
    refine ⟨D, ps, (List.range ls.length).map fun (i : Nat) => (Sum.inl (0 + (i : Int)), V.int (0 + (i : Int))), rfl, SqL.of ed, ?_, fun d hd => ?_⟩
    · have : ∀ {ps : List Addr} {xs : List Nat}, Paired (fun p (x : Nat) => H3 p = some (.tup [V.int (0 + (x : Int)), .int (0 + (x : Int))])) ps xs → Paired (fun p (kv : Key × V) => SqT K H3 p [kV kv.1, kv.2]) ps (xs.map fun (i : Nat) => (Sum.inl (0 + (i : Int)), V.int (0 + (i : Int)))) := fun q => by
        induction q with
        | nil => exact .nil
        | cons a b ih => exact .cons (SqT.of a) ih
      refine this ?_
      have back : ∀ {ps : List Addr} {xs : List Nat}, Paired (fun p (x : Int × Int) => H3 p = some (.tup [V.int x.1, .int x.2])) ps (xs.map fun (i : Nat) => (0 + (i : Int), 0 + (i : Int))) → Paired (fun p (x : Nat) => H3 p = some (.tup [V.int (0 + (x : Int)), .int (0 + (x : Int))])) ps xs := fun {ps xs} q => by
        induction xs generalizing ps with
        | nil => cases q; exact .nil
        | cons x xs ih =>
          cases q with
          | cons a b => exact .cons a (ih b)
      exact back pp
    have ekv : mergeK [] ((List.range ls.length).map fun (i : Nat) => ((Sum.inl (0 + (i : Int)) : Key), V.int (0 + (i : Int)))) = (List.range ls.length).map fun (i : Nat) => ((Sum.inl (i : Int) : Key), V.int (i : Int)) := by
      have e : ((List.range ls.length).map fun (i : Nat) => ((Sum.inl (0 + (i : Int)) : Key), V.int (0 + (i : Int)))) = (List.range ls.length).map fun (i : Nat) => ((Sum.inl (i : Int) : Key), V.int (i : Int)) := by
        congr 1
        funext i
        rw [Int.zero_add]
      rw [e, mergeK_app _ _ ?_ (fun _ _ => rfl), List.nil_append]
      rw [List.map_map]
      refine (List.nodup_range (n := ls.length)).map _ ?_
      intro a b hne he
      have he : (Sum.inl (a : Int) : Key) = Sum.inl (b : Int) := he
      injection he with he
      exact hne (by omega)
    rw [ekv]
    have s4 : Same H3 (upd H3 d (.dK ((List.range ls.length).map fun (i : Nat) => ((Sum.inl (i : Int) : Key), V.int (i : Int))))) := Rs.Same.new hd
    have ed4 : upd H3 d (.dK ((List.range ls.length).map fun (i : Nat) => ((Sum.inl (i : Int) : Key), V.int (i : Int)))) d = some _ := upd_same
    have s04 := (s02.trans s3).trans s4
    have hd0 : H d = none := (s02.trans s3).free hd
    generalize upd H3 d (.dK ((List.range ls.length).map fun (i : Nat) => ((Sum.inl (i : Int) : Key), V.int (i : Int)))) = H4 at s4 ed4 s04 ⊢
    clear s4 s3 s2 s1 s02 hl2 pp pd ed ekv hD
    have hl4 := s04 _ _ hl
    have pk4 : PKv H4 ((List.range ls.length).map fun (i : Nat) => ((Sum.inl (i : Int) : Key), V.int (i : Int))) (plans0 ls.length) := P2.map _ fun i _ => ⟨rfl, .leaf _⟩
    -- rows
    refine ⟨_, rfl, lenL hl4 rfl ⟨_, rfl, by omega, by rw [List.length_map]; omega, fun D hD => ?_⟩⟩
    rw [en]
    refine lcm_range (lo := 0) (n := ls.length) (S := IIAt) (fun j => some (ls.getD j 0, (j : Int))) IIAt.st hD (by omega) ?_ ?_
    · intro j H' hj s skip put
      have ej : (0 + (j : Int)) = ((j : Nat) : Int) := by omega
      refine ⟨rfl, lc_yes ⟨_, rfl, _, rfl, ixL (s _ _ hl4) ej (v := .int (ls.getD j 0)) ?_ ⟨_, rfl, szle (by show 2 ≤ 100000; decide), fun t ht => put _ _ _ (Rs.Same.new ht) rfl ⟨t, rfl, ?_⟩⟩⟩⟩
      · rw [List.getElem?_map, List.getElem?_eq_getElem hj, getD_lt hj]
        rfl
      · rw [upd_same, ej]
    intro H5 L5 s5
    rw [fm_some] at L5
    have s05 := s04.trans s5
    have ed5 := s5 _ _ ed4
    have pk5 := pk4.mono (TupLe.same s5)
    have I0 : CInv ls.length (rows0 ls) (plans0 ls.length) := by
      refine ⟨fun r hr => ?_, fun q hq => ?_, ?_⟩
      · obtain ⟨i, hi, rfl⟩ := List.mem_map.mp hr
        exact ⟨_, List.mem_map_of_mem (f := fun (i : Nat) => ((i : Int), Pl.leaf (i : Int))) hi, rfl⟩
      · obtain ⟨i, hi, rfl⟩ := List.mem_map.mp hq
        have := List.mem_range.mp hi
        unfold plans0
        rw [List.length_map, List.length_range]
        show (i : Int) < _
        omega
      · unfold rows0
        rw [List.map_map]
        exact nodup_cast (l := List.range ls.length) List.nodup_range
    -- the loop
    refine ⟨fun m σ H' => ∃ (lr : Addr) (rows : List (Int × Int)) (plans : List (Int × Pl)) (kvs : List (Key × V)) (found : Int) (x5 x6 x7 : Option V) (f : Nat), m = rows.length ∧ σ = [some (.ref l), some (.int (w : Int)), some (.ref d), some (.ref lr), some (.int found), x5, x6, x7, none, none, none] ∧ Lst IIAt H' lr rows ∧ H' d = some (.dK kvs) ∧ PKv H' kvs plans ∧ CInv ls.length rows plans ∧ Same H H' ∧ 1 ≤ rows.length ∧ rows.length ≤ 40 ∧ rows.length ≤ f + 1 ∧ plans.length + rows.length ≤ 81 ∧ cgo ls.length w f rows plans found = cheapL ls w,
      ⟨_, D, rows0 ls, plans0 ls.length, _, 0, none, none, none, ls.length, rfl, rfl, L5, ed5, pk5, I0, s05, by simp [rows0]; omega, by simp [rows0]; omega, by simp [rows0], by simp [rows0, plans0]; omega, rfl⟩, ?_⟩
    clear I0 pk5 ed5 s05 L5 s5 pk4 hl4 ed4 s04
    rintro m σ H6 ⟨lr, rows, plans, kvs, found, x5, x6, x7, f, rfl, rfl, ⟨rv, er, pr⟩, ed, pk, I, s06, r1, r40, rf, rp, go⟩
    have lrv := pr.length
    refine ⟨_, rfl, lenL er rfl ⟨_, _, rfl, rfl, _, rfl, ?_⟩⟩
    by_cases hlt : (1 : Int) < (rv.length : Int)
    · rw [decide_eq_true hlt]
      have h2 : 2 ≤ rows.length := by omega
      have hmb := hm_le h2 w2
      have nl := least_len h2 w2
      cases f with
      | zero => omega
      | succ f =>
      have go2 : cgo ls.length w f (cRows ls.length w rows plans) (cPlans ls.length w rows plans) (found + cSize w rows) = cheapL ls w := by
        rw [← go]
        show _ = if 1 < rows.length then _ else _
        rw [if_pos (by omega)]
      have rlen := I.rows_len h2 w2
      refine ⟨fun σ H' => ∃ (lr : Addr) (rows' : List (Int × Int)) (plans : List (Int × Pl)) (kvs : List (Key × V)) (found : Int) (x5 x6 x7 : Option V) (f : Nat), rows'.length < rows.length ∧ σ = [some (.ref l), some (.int (w : Int)), some (.ref d), some (.ref lr), some (.int found), x5, x6, x7, none, none, none] ∧ Lst IIAt H' lr rows' ∧ H' d = some (.dK kvs) ∧ PKv H' kvs plans ∧ CInv ls.length rows' plans ∧ Same H H' ∧ 1 ≤ rows'.length ∧ rows'.length ≤ 40 ∧ rows'.length ≤ f + 1 ∧ plans.length + rows'.length ≤ 81 ∧ cgo ls.length w f rows' plans found = cheapL ls w, ?_, ?_⟩
      · rintro σ H' ⟨lr, rows', plans, kvs, found, x5, x6, x7, f, a1, a2⟩
        exact ⟨_, a1, lr, rows', plans, kvs, found, x5, x6, x7, f, rfl, a2⟩
      -- some
      refine ⟨_, rfl, _, rfl, lr, rows, w, rfl, ⟨rv, er, pr⟩, rfl, w2, h2, by omega, fun lS H7 hlS eS s7 => ?_⟩
      have er7 := s7 _ _ er
      have ed7 := s7 _ _ ed
      have pr7 := Paired.tl IIAt.st (TupLe.same s7) pr
      have pk7 := pk.mono (TupLe.same s7)
      have s07 := s06.trans s7
      clear er ed pr pk s06 hlS
      -- size
      refine ⟨_, rfl, lr, rfl, ⟨_, SqL.of er7⟩, fun D hD => ?_⟩
      refine lcm_list (S := IntAt) (fun r : Int × Int => if decide (r.2 ∈ leastN rows w) = true then some r.1 else none) IntAt.st er7 pr7 hD ?_ (by omega) ?_
      · intro j v x H' hx hj r s skip put
        obtain ⟨t, rfl, et⟩ := r
        refine ⟨t, _, rfl, SqT.of (s _ _ et), rfl, _, _, rfl, _, _, rfl, rfl, rfl, ?_⟩
        refine ⟨_, rfl, _, rfl, lS, _, rfl, .inl (SqL.of (s _ _ eS)), rfl, flat_ints _, _, rfl, ?_⟩
        rw [inV_int]
        cases hb : decide (x.2 ∈ leastN rows w) with
        | true => exact ⟨_, rfl, put H' _ _ (Same.refl _) (by rw [hb]; rfl) rfl⟩
        | false => exact skip H' (Same.refl _) (by rw [hb]; rfl)
      intro H8 L8 s8
      rw [fm_if] at L8
      refine ⟨D, _, rfl, SqL.of (Lst.ints.mp L8), ?_⟩
      rw [show (List.map (fun r : Int × Int => r.1) (List.filter (fun r => decide (r.2 ∈ leastN rows w)) rows)).sum = cSize w rows from rfl]
      have er8 := s8 _ _ er7
      have ed8 := s8 _ _ ed7
      have eS8 := s8 _ _ eS
      have s08 := s07.trans s8
      have pr8 := Paired.tl IIAt.st (TupLe.same s8) pr7
      have pk8 := pk7.mono (TupLe.same s8)
      clear er7 ed7 eS s07 pr7 pk7 L8 hD
      -- name
      have pkl := pk8.length
      refine ⟨_, rfl, lenL (s08 _ _ hl) rfl ⟨_, rfl, d, kvs, rfl, ed8, _, _, rfl, rfl, ?_⟩⟩
      -- plans[name]
      refine ⟨_, rfl, lS, rfl, ⟨_, SqL.of eS8⟩, fun D hD => ?_⟩
      refine lcm_list (S := PlR) (fun x : Int => some (lookP plans x)) PlR.st eS8 (ints_paired (leastN rows w)) hD ?_ (by omega) ?_
      · intro j v x H' hx hj r s skip put
        have ev : v = .int x := r
        subst ev
        obtain ⟨y, hy, ey⟩ := least_sub x (List.mem_of_getElem? hx)
        obtain ⟨q, hq, eq⟩ := I.names y hy
        obtain ⟨z, hz, rz⟩ := pk8.look ⟨q, hq, eq.trans ey⟩
        refine ⟨rfl, lc_yes ⟨_, rfl, _, rfl, d, z, rfl, ?_, put H' _ _ (Same.refl _) rfl (PlR.st _ _ _ _ (TupLe.same s) rz)⟩⟩
        rw [← hz]
        exact DGet.k (k := Sum.inl x) (s _ _ ed8)
      intro H9 L9 s9
      rw [fm_some] at L9
      obtain ⟨tv, et9, pt9⟩ := L9
      refine ⟨D, tv, rfl, .inl ⟨SqL.of et9, fun p hp => ?_⟩⟩
      have s10 : Same H9 (upd H9 p (.tup tv)) := Rs.Same.new hp
      have et10 : upd H9 p (.tup tv) p = some (.tup tv) := upd_same
      have pt10 := Paired.tl PlR.st (TupLe.same s10) pt9
      have s810 := s9.trans s10
      generalize upd H9 p (.tup tv) = H10 at s10 et10 pt10 s810 ⊢
      have s010 := s08.trans s810
      have er10 := s810 _ _ er8
      have ed10 := s810 _ _ ed8
      have eS10 := s810 _ _ eS8
      have pr10 := Paired.tl IIAt.st (TupLe.same s810) pr8
      have pk10 := pk8.mono (TupLe.same s810)
      clear er8 ed8 eS8 pr8 pk8 s9 s10 pt9 et9 hD s08
      have nmE : (((ls.map V.int).length : Nat) : Int) + ((kvs.length : Nat) : Int) = (ls.length : Int) + plans.length := by rw [List.length_map, pkl]
      dsimp only
      rw [nmE]
      have hnew : valV kvs (Sum.inl ((ls.length : Int) + plans.length)) = none := (pk10.find _).1 (find_none fun q hq e => by have := I.lt q hq; omega)
      refine ⟨_, rfl, _, rfl, d, _, rfl, DPut.k (k := Sum.inl ((ls.length : Int) + plans.length)) ed10 (szlt (by omega)), ?_⟩
      rw [putK_new _ hnew]
      have s11 : Same H (upd H10 d (.dK (kvs ++ [(Sum.inl ((ls.length : Int) + plans.length), .ref p)]))) := Rs.Same.mut s010 hd0
      have t11 : TupLe H10 (upd H10 d (.dK (kvs ++ [(Sum.inl ((ls.length : Int) + plans.length), .ref p)]))) := (TupLe.refl _).put fun xs e => by rw [ed10] at e; cases e
      have er11 := up (u := .dK (kvs ++ [(Sum.inl ((ls.length : Int) + plans.length), .ref p)])) er10 (ne_of er10 ed10 (by intro z; cases z))
      have eS11 := up (u := .dK (kvs ++ [(Sum.inl ((ls.length : Int) + plans.length), .ref p)])) eS10 (ne_of eS10 ed10 (by intro z; cases z))
      have ed11 : upd H10 d (.dK (kvs ++ [(Sum.inl ((ls.length : Int) + plans.length), .ref p)])) d = some _ := upd_same
      have pr11 := Paired.tl IIAt.st t11 pr10
      have pk11 : PKv (upd H10 d (.dK (kvs ++ [(Sum.inl ((ls.length : Int) + plans.length), .ref p)]))) (kvs ++ [(Sum.inl ((ls.length : Int) + plans.length), .ref p)]) (cPlans ls.length w rows plans) := P2.app (pk10.mono t11) (P2.one ⟨rfl, PlR.st _ _ _ _ t11 (PlR.node et10 pt10)⟩)
      generalize upd H10 d (.dK (kvs ++ [(Sum.inl ((ls.length : Int) + plans.length), .ref p)])) = H11 at s11 t11 er11 eS11 ed11 pr11 pk11 ⊢
      clear er10 ed10 eS10 pr10 pk10 s010 s810 et10 pt10
      -- rows
      refine ⟨_, rfl, lr, rfl, ⟨_, SqL.of er11⟩, fun D hD => ?_⟩
      refine lcm_list (S := IIAt) (fun r : Int × Int => if decide (r.2 ∉ leastN rows w) = true then some r else none) IIAt.st er11 pr11 hD ?_ (by omega) ?_
      · intro j v x H' hx hj r s skip put
        have r' := IIAt.st _ _ _ _ (TupLe.same s) r
        refine ⟨rfl, _, rfl, ixT r' (j := 1) rfl rfl ⟨_, rfl, lS, _, rfl, .inl (SqL.of (s _ _ eS11)), rfl, flat_ints _, _, rfl, ?_⟩⟩
        rw [inV_int]
        rw [if_pos rfl]
        have nb := not_mem_dec (x := x.2) (l := leastN rows w)
        cases hb : decide (x.2 ∈ leastN rows w) with
        | true => exact skip H' (Same.refl _) (by rw [nb, hb]; rfl)
        | false => exact ⟨_, rfl, put H' _ _ (Same.refl _) (by rw [nb, hb]; rfl) r'⟩
      intro H12 L12 s12
      rw [fm_if, List.map_id'] at L12
      obtain ⟨kv2, e12, p12⟩ := L12
      have l12 := p12.length
      have lf := List.length_filter_le (fun r : Int × Int => decide (r.2 ∉ leastN rows w)) rows
      refine ⟨_, rfl, _, rfl, szle (by show 2 ≤ 100000; decide), fun t ht => ?_⟩
      have et13 : upd H12 t (.tup [.int (cSize w rows), .int ((ls.length : Int) + plans.length)]) t = some (.tup [.int (cSize w rows), .int ((ls.length : Int) + plans.length)]) := upd_same
      have s13 : Same H12 (upd H12 t (.tup [.int (cSize w rows), .int ((ls.length : Int) + plans.length)])) := Rs.Same.new ht
      refine ⟨szle (by show 1 ≤ 100000; decide), fun q hq => ?_⟩
      have hDq := un (u := .lst [.ref t]) (s13 _ _ e12) hq
      refine ⟨_, _, _, _, rfl, rfl, hDq, upd_same, szle (by rw [l12]; show _ + 1 ≤ 100000; omega), fun q2 hq2 => ?_⟩
      have s14 : Same H12 (upd (upd (upd H12 t (.tup [.int (cSize w rows), .int ((ls.length : Int) + plans.length)])) q (.lst [.ref t])) q2 (.lst (kv2 ++ [.ref t]))) := (s13.trans (Rs.Same.new hq)).trans (Rs.Same.new hq2)
      have L14 : Lst IIAt (upd (upd (upd H12 t (.tup [.int (cSize w rows), .int ((ls.length : Int) + plans.length)])) q (.lst [.ref t])) q2 (.lst (kv2 ++ [.ref t]))) q2 (cRows ls.length w rows plans) := ⟨_, upd_same, P2.app (Paired.tl IIAt.st (TupLe.same s14) p12) (P2.one ⟨t, rfl, ((Rs.Same.new hq).trans (Rs.Same.new hq2)) _ _ et13⟩)⟩
      generalize upd (upd (upd H12 t (.tup [.int (cSize w rows), .int ((ls.length : Int) + plans.length)])) q (.lst [.ref t])) q2 (.lst (kv2 ++ [.ref t])) = H14 at s14 L14 ⊢
      have s1114 := s12.trans s14
      refine ⟨_, rfl, _, rfl, _, _, rfl, rfl, ?_⟩
      refine ⟨q2, _, _, _, found + cSize w rows, _, _, _, f, by omega, rfl, L14, s1114 _ _ ed11, pk11.mono (TupLe.same s1114), I.step, s11.trans s1114, by omega, by omega, by omega, ?_, go2⟩
      unfold cPlans
      rw [List.length_append, List.length_singleton]
      omega
    · rw [decide_eq_false hlt]
      have h1 : rows.length = 1 := by omega
      have eR : (found, lookP plans (rows.getD 0 (0, 0)).2) = cheapL ls w := by
        rw [← go]
        cases f with
        | zero => rfl
        | succ f =>
          show _ = if 1 < rows.length then _ else _
          rw [if_neg (by omega)]
      have g0 : rows[0]? = some (rows.getD 0 (0, 0)) := by rw [List.getD_eq_getElem?_getD, List.getElem?_eq_getElem (by omega)]; rfl
      obtain ⟨v0, hv0, rv0⟩ := P2.get' pr g0
      obtain ⟨q, hq, eq⟩ := I.names _ (List.mem_of_getElem? g0)
      obtain ⟨z, hz, rz⟩ := pk.look ⟨q, hq, eq⟩
      refine ⟨_, rfl, _, rfl, _, rfl, ixL er (j := 0) rfl hv0 (ixT rv0 (j := 1) rfl rfl ⟨d, z, rfl, ?_, szle (by show 2 ≤ 100000; decide), fun t ht => ?_⟩)⟩
      · rw [← hz]
        exact DGet.k (k := Sum.inl _) ed
      have st : Same H6 (upd H6 t (.tup [.int found, z])) := Rs.Same.new ht
      refine k t z _ (s06.free ht) ?_ ?_ (s06.trans st)
      · rw [← eR]
        exact upd_same
      · rw [← eR]
        exact PlR.st _ _ _ _ (TupLe.same st) rz
end Rs

namespace Rs
open PySem PySem.Spec PyProof.Rows L2
/-! ### cuts of a stretch -/
def cutSum (c : Int → Int → Int) : Int → List Int → Int
  | _, [] => 0
  | b, p :: ps => c b p + cutSum c p ps
/-- rising places from b to t -/
def Asc : Int → List Int → Int → Prop
  | b, [], t => b = t
  | b, p :: ps, t => b < p ∧ Asc p ps t
theorem asc_le : ∀ {ps : List Int} {b t : Int}, Asc b ps t → b + ps.length ≤ t
  | [], b, t, h => by simp [Asc] at h; simp; omega
  | p :: ps, b, t, h => by
    have := asc_le h.2
    have := h.1
    rw [List.length_cons]
    omega
theorem asc_snoc : ∀ {ps : List Int} {b h t : Int}, Asc b ps h → h < t → Asc b (ps ++ [t]) t
  | [], b, h, t, a, l => by
    have a : b = h := a
    exact ⟨by omega, rfl⟩
  | p :: ps, b, h, t, a, l => ⟨a.1, asc_snoc a.2 l⟩
theorem asc_last : ∀ {qs : List Int} {b t : Int}, Asc b qs t → qs ≠ [] → ∃ ps h, qs = ps ++ [t] ∧ Asc b ps h ∧ h < t
  | [], b, t, _, n => absurd rfl n
  | [p], b, t, a, _ => by
    obtain ⟨a1, a2⟩ := a
    have a2 : p = t := a2
    exact ⟨[], b, by rw [a2]; rfl, rfl, by omega⟩
  | p :: q :: qs, b, t, a, _ => by
    obtain ⟨ps, h, e, a', l⟩ := asc_last (qs := q :: qs) a.2 (by simp)
    exact ⟨p :: ps, h, by rw [e]; rfl, ⟨a.1, a'⟩, l⟩
theorem cut_snoc {c : Int → Int → Int} : ∀ {ps : List Int} {b h t : Int}, Asc b ps h → cutSum c b (ps ++ [t]) = cutSum c b ps + c h t
  | [], b, h, t, a => by
    have a : b = h := a
    subst a
    simp [cutSum]
  | p :: ps, b, h, t, a => by
    show c b p + cutSum c p (ps ++ [t]) = c b p + cutSum c p ps + c h t
    rw [cut_snoc a.2]
    omega
/-- the least cut into two to w parts -/
structure BestCut (c : Int → Int → Int) (b e : Int) (w : Nat) (s : Int) (ps : List Int) : Prop where
  asc : Asc b ps e
  two : 2 ≤ ps.length
  le : ps.length ≤ w
  sum : s = cutSum c b ps
  min : ∀ qs, Asc b qs e → 2 ≤ qs.length → qs.length ≤ w → s ≤ cutSum c b qs
/-! ### (a number, places) as it stands; what stays while dicts change -/
def TL (H H' : Hp) : Prop := (∀ a xs, H a = some (.tup xs) → H' a = some (.tup xs)) ∧ ∀ a xs, H a = some (.lst xs) → H' a = some (.lst xs)
theorem TL.refl (H : Hp) : TL H H := ⟨fun _ _ h => h, fun _ _ h => h⟩
theorem TL.trans {H H1 H2 : Hp} (a : TL H H1) (b : TL H1 H2) : TL H H2 := ⟨fun c xs h => b.1 c xs (a.1 c xs h), fun c xs h => b.2 c xs (a.2 c xs h)⟩
theorem TL.same {H H' : Hp} (s : Same H H') : TL H H' := ⟨fun c xs h => s c _ h, fun c xs h => s c _ h⟩
theorem TL.put {H : Hp} {a : Addr} {o u : HO} (h : H a = some u) (h1 : ∀ xs, u ≠ .tup xs) (h2 : ∀ xs, u ≠ .lst xs) : TL H (upd H a o) :=
  ⟨fun c xs e => by rw [upd_ne (fun z => by rw [z, h] at e; exact h1 xs (Option.some.inj e))]; exact e, fun c xs e => by rw [upd_ne (fun z => by rw [z, h] at e; exact h2 xs (Option.some.inj e))]; exact e⟩
theorem TL.dk {H : Hp} {a : Addr} {o : HO} {kvs : List (Key × V)} (h : H a = some (.dK kvs)) : TL H (upd H a o) := TL.put h (fun _ z => by cases z) (fun _ z => by cases z)
theorem TL.fz {H : Hp} {a : Addr} {o : HO} {od : Obj} {u : HO} (h : H a = some (.frz od u)) : TL H (upd H a o) := TL.put h (fun _ z => by cases z) (fun _ z => by cases z)
abbrev Cut := Int × List Int
def CutAt (H : Hp) (v : V) (q : Cut) : Prop := ∃ a l, v = .ref a ∧ H a = some (.tup [.int q.1, .ref l]) ∧ H l = some (.lst (q.2.map V.int))
theorem CutAt.tl {H H' : Hp} {v : V} {q : Cut} (t : TL H H') (h : CutAt H v q) : CutAt H' v q := let ⟨a, l, e, h1, h2⟩ := h; ⟨a, l, e, t.1 _ _ h1, t.2 _ _ h2⟩
theorem map_int_inj : ∀ {a b : List Int}, a.map V.int = b.map V.int → a = b
  | [], [], _ => rfl
  | [], _ :: _, h => by simp at h
  | _ :: _, [], h => by simp at h
  | x :: a, y :: b, h => by
    rw [List.map_cons, List.map_cons] at h
    injection h with h1 h2
    injection h1 with h1
    rw [h1, map_int_inj h2]
theorem CutAt.uniq {H : Hp} {v : V} {q r : Cut} (h : CutAt H v q) (k : CutAt H v r) : q = r := by
  obtain ⟨a, l, rfl, h1, h2⟩ := h
  obtain ⟨a', l', e, k1, k2⟩ := k
  injection e with e
  subst e
  rw [h1] at k1
  injection k1 with k1
  injection k1 with k1
  injection k1 with k1 k3
  injection k1 with k1
  injection k3 with k3
  injection k3 with k3
  subst k3
  rw [h2] at k2
  injection k2 with k2
  injection k2 with k2
  exact Prod.ext k1 (map_int_inj k2)
theorem CutAt.dp {K : PySem.W.Frag} {H : Hp} {v : V} {q : Cut} (h : CutAt H v q) : Dp K H v (cutD q) := by
  obtain ⟨a, l, rfl, h1, h2⟩ := h
  have hints : ∀ ns : List Int, DpAll K H (ns.map V.int) (ns.map PyData.int) := fun ns => by
    induction ns with
    | nil => exact .nil
    | cons x xs ih => exact .cons (.int x) ih
  exact .tup (SqT.of h1) (.cons (.int _) (.cons (.lst (SqL.of h2) (hints _)) .nil))
/-! ### dicts: keys -/
theorem putK_keys {kvs : List (Key × V)} {k : Key} {v : V} : ((putK kvs k v).map (·.1)) = if (valV kvs k).isSome then kvs.map (·.1) else kvs.map (·.1) ++ [k] := by
  unfold putK
  rw [valV_any]
  cases (valV kvs k).isSome
  · simp
  · simp only [if_true, List.map_map]
    congr 1
    funext kv
    show (if kv.1 = k then (kv.1, v) else kv).1 = kv.1
    split <;> rfl
theorem valV_mem {kvs : List (Key × V)} {k : Key} {v : V} (h : valV kvs k = some v) : ∃ i : Nat, kvs[i]? = some (k, v) := by
  unfold valV at h
  obtain ⟨kv, h1, h2⟩ := Option.map_eq_some_iff.mp h
  obtain ⟨i, hi⟩ := List.mem_iff_getElem?.mp (List.mem_of_find?_eq_some h1)
  have := List.find?_some h1
  refine ⟨i, ?_⟩
  rw [hi]
  have e : kv.1 = k := by simpa using this
  rw [← e, ← h2]
theorem valV_of_mem {kvs : List (Key × V)} {k : Key} {v : V} (h : (k, v) ∈ kvs) : ∃ u, valV kvs k = some u := by
  cases e : valV kvs k with
  | some u => exact ⟨u, rfl⟩
  | none =>
    exfalso
    unfold valV at e
    rw [Option.map_eq_none_iff, List.find?_eq_none] at e
    have := e _ h
    simp at this
theorem keys_none {kvs : List (Key × V)} {k : Key} (h : valV kvs k = none) : k ∉ kvs.map (·.1) := fun hm => by
  obtain ⟨kv, hkv, e⟩ := List.mem_map.mp hm
  obtain ⟨u, hu⟩ := valV_of_mem (kvs := kvs) (k := k) (v := kv.2) (by rw [← e]; exact hkv)
  rw [h] at hu
  cases hu
theorem putK_nd {kvs : List (Key × V)} {k : Key} {v : V} (nd : (kvs.map (·.1)).Nodup) : ((putK kvs k v).map (·.1)).Nodup := by
  rw [putK_keys]
  cases e : valV kvs k with
  | some u => exact nd
  | none =>
    simp only [Option.isSome_none, Bool.false_eq_true, if_false]
    refine List.nodup_append.mpr ⟨nd, by simp, fun a ha b hb z => ?_⟩
    have hb : b = k := by simpa using hb
    rw [z, hb] at ha
    exact keys_none e ha
theorem keys_few {kvs : List (Key × V)} {b : Int} {n : Nat} (nd : (kvs.map (·.1)).Nodup) (h : ∀ k ∈ kvs.map (·.1), ∃ t : Int, k = Sum.inl t ∧ b ≤ t ∧ t ≤ b + n) : kvs.length ≤ n + 1 := by
  have sub : (kvs.map (·.1)) ⊆ (List.range (n + 1)).map fun (i : Nat) => (Sum.inl (b + (i : Int)) : Key) := fun k hk => by
    obtain ⟨t, e, h1, h2⟩ := h k hk
    refine List.mem_map.mpr ⟨(t - b).toNat, List.mem_range.mpr (by omega), ?_⟩
    rw [e]
    congr 1
    omega
  have := nd.length_le_of_subset sub
  simpa using this
theorem valV_drop {kvs : List (Key × V)} {k j : Key} : valV (dropK kvs k) j = if j = k then none else valV kvs j := by
  unfold valV dropK
  induction kvs with
  | nil => simp
  | cons kv kvs ih =>
    rw [List.filter_cons]
    by_cases e : kv.1 = k
    · rw [if_neg (by simp [e]), ih]
      by_cases ej : j = k
      · rw [if_pos ej, if_pos ej]
      · rw [if_neg ej, if_neg ej, List.find?_cons, decide_eq_false (by rw [e]; exact fun z => ej z.symm)]
    · rw [if_pos (by simp [e]), List.find?_cons]
      by_cases ej : kv.1 = j
      · rw [decide_eq_true ej, if_neg (by rw [← ej]; exact e), List.find?_cons, decide_eq_true ej]
      · rw [decide_eq_false ej, ih]
        by_cases ek : j = k
        · rw [if_pos ek, if_pos ek]
        · rw [if_neg ek, if_neg ek, List.find?_cons, decide_eq_false ej]
/-! ### costs of stretches -/
abbrev Costs := List ((Int × Int) × Int)
def kk (b e : Int) : List Key := [Sum.inl b, Sum.inl e]
def encC (cl : Costs) : List (List Key × V) := cl.map fun q => (kk q.1.1 q.1.2, V.int q.2)
def cLook (cl : Costs) (b e : Int) : Option Int := (cl.find? fun q => decide (q.1 = (b, e))).map (·.2)
def cOf (cl : Costs) (b e : Int) : Int := (cLook cl b e).getD 0
theorem kk_inj {a b c d : Int} (h : kk a b = kk c d) : a = c ∧ b = d := by
  unfold kk at h
  injection h with h1 h2
  injection h2 with h2 h3
  injection h1 with h1
  injection h2 with h2
  exact ⟨h1, h2⟩
theorem enc_val (cl : Costs) (b e : Int) : valV (encC cl) (kk b e) = (cLook cl b e).map V.int := by
  induction cl with
  | nil => rfl
  | cons q cl ih =>
    have e1 : encC (q :: cl) = (kk q.1.1 q.1.2, V.int q.2) :: encC cl := rfl
    rw [e1]
    unfold cLook
    rw [List.find?_cons]
    by_cases h : q.1 = (b, e)
    · rw [decide_eq_true h, valV_pos (by rw [h])]
      rfl
    · have hk : ¬ (kk q.1.1 q.1.2, V.int q.2).1 = kk b e := fun z => h (by
        obtain ⟨z1, z2⟩ := kk_inj z
        exact Prod.ext z1 z2)
      rw [decide_eq_false h, valV_neg hk, ih]
      rfl
theorem enc_getD (cl : Costs) (b e : Int) : (valV (encC cl) (kk b e)).getD (.int 0) = V.int (cOf cl b e) := by
  rw [enc_val]
  unfold cOf
  cases cLook cl b e <;> rfl
abbrev N_stretches : List Str := ["many", "found", "size", "begin"]
abbrev P_stretches : List Str := ["many"]
/-- all stretches of two or more, the shorter ones first -/
def stretchL (n : Nat) : List (Int × Int) := (List.range (n - 1)).flatMap fun (k : Nat) => (List.range (n - 1 - k)).map fun (b : Nat) => ((b : Int), (b : Int) + (2 + (k : Int)))
def sp_stretches (K : PySem.W.Frag) : Sp := fun vs H Q E => match vs with
  | [mv] => ∃ n : Nat, mv = .int (n : Int) ∧ n ≤ 40 ∧ ∀ l H', H l = none → Lst IIAt H' l (stretchL n) → Same H H' → Q (.ref l) H'
  | _ => False
def t_stretches (K : PySem.W.Frag) (E : XK) : TS := (tSeq (tAsg (tLst tNil) (gName 1))
  (tSeq (tFor (iRng2 (tConsC (.int 2) (tCons (tOpC xAdd (tVar 0) (.int 1)) tNil))) (gName 2) (tDrop (tBM K "list" rExtend (tVar 1) (tCons (tLc (iRng1 (tCons (tOpC xAdd (tOp xSub (tVar 0) (tVar 2)) (.int 1)) tNil)) (gName 3) tYes (tTup (tCons (tVar 3) (tCons (tOp xAdd (tVar 3) (tVar 2)) tNil))) [3]) tNil))))
   (tRet (tVar 1))))
theorem flat_le {n : Nat} (h : n ≤ 40) : ∀ k, k ≤ n - 1 → ((List.range k).flatMap fun (k : Nat) => (List.range (n - 1 - k)).map fun (b : Nat) => ((b : Int), (b : Int) + (2 + (k : Int)))).length ≤ 40 * k
  | 0, _ => by simp
  | k + 1, hk => by
    have ih := flat_le h k (by omega)
    rw [List.range_succ, List.flatMap_append, List.length_append]
    simp only [List.flatMap_cons, List.flatMap_nil, List.append_nil, List.length_map, List.length_range]
    omega
theorem pure_stretches {K : PySem.W.Frag} : ∀ vs H Q E, sp_stretches K vs H Q E → t_stretches K E { nx := fun _ H' => Q .non H', rt := Q } (start N_stretches vs) H := by
  intro vs H Q E h
  match vs, h with
  | [mv], h =>
    obtain ⟨n, rfl, hn, k⟩ := h
    refine ⟨sz0, fun f hf => ?_⟩
    refine ⟨_, rfl, _, _, rfl, rfl, _, _, rfl, ⟨by decide, by decide, by show _ ≤ (n : Int) + 1; omega, by show (n : Int) + 1 < _; omega⟩, ?_⟩
    have en : ((n : Int) + 1 - 2).toNat = n - 1 := by omega
    rw [en]
    refine for_range (lo := 2) (n := n - 1) (fun j σ H' => ∃ x2, σ = [some (.int (n : Int)), some (.ref f), x2, none] ∧ Lst IIAt H' f ((List.range j).flatMap fun (k : Nat) => (List.range (n - 1 - k)).map fun (b : Nat) => ((b : Int), (b : Int) + (2 + (k : Int)))) ∧ Same H H') ⟨none, rfl, ⟨[], upd_same, .nil⟩, Rs.Same.new hf⟩ ?_ ?_
    · rintro j σ H1 hj ⟨x2, rfl, ⟨fv, ef, pf⟩, s1⟩
      have lf := pf.length
      have fb := flat_le hn j (by omega)
      refine ⟨_, rfl, .inl ⟨rfl, _, SqL.of ef⟩, _, rfl, _, rfl, _, _, rfl, rfl, _, _, rfl, rfl, _, rfl, by show _ ≤ (n : Int) - (2 + (j : Int)) + 1; omega, by show (n : Int) - (2 + (j : Int)) + 1 < _; omega, fun D hD => ?_⟩
      have en2 : ((n : Int) - (2 + (j : Int)) + 1).toNat = n - 1 - j := by omega
      dsimp only
      rw [en2]
      refine lcm_range (lo := 0) (n := n - 1 - j) (S := IIAt) (fun (b : Nat) => some ((b : Int), (b : Int) + (2 + (j : Int)))) IIAt.st hD (by omega) ?_ ?_
      · intro b H' hb s skip put
        have eb : (0 + (b : Int)) = (b : Int) := by omega
        refine ⟨rfl, lc_yes ⟨_, rfl, _, rfl, _, rfl, _, _, rfl, rfl, szle (by show 2 ≤ 100000; decide), fun t ht => put _ _ _ (Rs.Same.new ht) rfl ⟨t, rfl, ?_⟩⟩⟩
        rw [upd_same, eb]
      · intro H2 L2 s2
        rw [fm_some] at L2
        obtain ⟨dv, ed, pd⟩ := L2
        have ld := pd.length
        rw [List.length_map, List.length_range] at ld
        have ef2 := s2 _ _ ef
        refine ⟨f, D, fv, dv, rfl, rfl, ef2, ed, szle (by omega), _, rfl, ⟨_, upd_same, ?_⟩, Rs.Same.mut (s1.trans s2) hf⟩
        have t : TupLe H2 (upd H2 f (.lst (fv ++ dv))) := (TupLe.refl _).list ef2
        rw [List.range_succ, List.flatMap_append]
        refine P2.app (Paired.tl IIAt.st ((TupLe.same s2).trans t) pf) ?_
        simp only [List.flatMap_cons, List.flatMap_nil, List.append_nil]
        exact Paired.tl IIAt.st t pd
    · rintro σ H1 ⟨x2, rfl, L, s⟩
      exact ⟨_, rfl, k f H1 hf L s⟩
end Rs

namespace Rs
open PySem PySem.Spec PyProof.Rows L2
abbrev N_cuts_of : List Str := ["costs", "begin", "end", "ways", "best", "least", "part", "later", "here", "there", "one"]
abbrev P_cuts_of : List Str := ["costs", "begin", "end", "ways"]
def Sound (c : Int → Int → Int) (b e : Int) (j : Nat) (t s : Int) (ps : List Int) : Prop := Asc b ps t ∧ ps.length = j ∧ s = cutSum c b ps ∧ t ≤ e ∧ (j = 1 → t < e)
structure BestV (c : Int → Int → Int) (b e : Int) (j : Nat) (H : Hp) (kvs : List (Key × V)) : Prop where
  nd : (kvs.map (·.1)).Nodup
  snd : ∀ k v, valV kvs k = some v → ∃ t s ps, k = Sum.inl t ∧ CutAt H v (s, ps) ∧ Sound c b e j t s ps
  cmp : ∀ qs t, Asc b qs t → qs.length = j → t < e → ∃ v s ps, valV kvs (Sum.inl t) = some v ∧ CutAt H v (s, ps) ∧ s ≤ cutSum c b qs
structure LateV (c : Int → Int → Int) (b e : Int) (j : Nat) (Pr : Int → Int → Prop) (H : Hp) (bk lk : List (Key × V)) : Prop where
  nd : (lk.map (·.1)).Nodup
  snd : ∀ k v, valV lk k = some v → ∃ t s ps, k = Sum.inl t ∧ CutAt H v (s, ps) ∧ Sound c b e (j + 1) t s ps
  cmp : ∀ h vh sh ph, valV bk (Sum.inl h) = some vh → CutAt H vh (sh, ph) → ∀ t, Pr h t → h < t → t ≤ e → t - h < e - b → ∃ v s ps, valV lk (Sum.inl t) = some v ∧ CutAt H v (s, ps) ∧ s ≤ sh + c h t
def LeastV (c : Int → Int → Int) (b e : Int) (j : Nat) (H : Hp) (v : V) : Prop :=
  (v = .non ∧ ∀ qs, Asc b qs e → 2 ≤ qs.length → qs.length ≤ j → False) ∨ ∃ s ps, CutAt H v (s, ps) ∧ Asc b ps e ∧ 2 ≤ ps.length ∧ ps.length ≤ j ∧ s = cutSum c b ps ∧ ∀ qs, Asc b qs e → 2 ≤ qs.length → qs.length ≤ j → s ≤ cutSum c b qs
section
variable {c : Int → Int → Int} {b e : Int} {j : Nat} {H H' : Hp} {bk lk : List (Key × V)} {Pr Pr' : Int → Int → Prop}
theorem BestV.tl (B : BestV c b e j H bk) (t : TL H H') : BestV c b e j H' bk :=
  ⟨B.nd, fun k v h => let ⟨a, s, ps, x, y, z⟩ := B.snd k v h; ⟨a, s, ps, x, y.tl t, z⟩, fun qs a x y z => let ⟨v, s, ps, p, q, r⟩ := B.cmp qs a x y z; ⟨v, s, ps, p, q.tl t, r⟩⟩
theorem BestV.few (B : BestV c b e j H bk) (n : Nat) (h : e ≤ b + n) : bk.length ≤ n + 1 := keys_few (b := b) B.nd fun k hk => by
  obtain ⟨kv, hkv, rfl⟩ := List.mem_map.mp hk
  obtain ⟨u, hu⟩ := valV_of_mem (kvs := bk) (k := kv.1) (v := kv.2) hkv
  obtain ⟨t, s, ps, x, _, a, _, _, le, _⟩ := B.snd _ _ hu
  have := asc_le a
  exact ⟨t, x, by omega, by omega⟩
theorem LateV.few (L : LateV c b e j Pr H bk lk) (n : Nat) (h : e ≤ b + n) : lk.length ≤ n + 1 := keys_few (b := b) L.nd fun k hk => by
  obtain ⟨kv, hkv, rfl⟩ := List.mem_map.mp hk
  obtain ⟨u, hu⟩ := valV_of_mem (kvs := lk) (k := kv.1) (v := kv.2) hkv
  obtain ⟨t, s, ps, x, _, a, _, _, le, _⟩ := L.snd _ _ hu
  have := asc_le a
  exact ⟨t, x, by omega, by omega⟩
theorem LateV.tl (L : LateV c b e j Pr H bk lk) (B : BestV c b e j H bk) (t : TL H H') : LateV c b e j Pr H' bk lk :=
  ⟨L.nd, fun k v h => let ⟨a, s, ps, x, y, z⟩ := L.snd k v h; ⟨a, s, ps, x, y.tl t, z⟩, fun h vh sh ph h1 h2 a p q r z => by
    obtain ⟨t0, s0, ps0, x, y, _⟩ := B.snd _ _ h1
    have u := CutAt.uniq (y.tl t) h2
    rw [u] at y
    obtain ⟨v, s, ps, p1, p2, p3⟩ := L.cmp h vh sh ph h1 y a p q r z
    exact ⟨v, s, ps, p1, p2.tl t, p3⟩⟩
theorem LateV.imp (L : LateV c b e j Pr H bk lk) (i : ∀ h t, (valV bk (Sum.inl h)).isSome = true → Pr' h t → h < t → t ≤ e → t - h < e - b → Pr h t) : LateV c b e j Pr' H bk lk :=
  ⟨L.nd, L.snd, fun h vh sh ph h1 h2 a p q r z => L.cmp h vh sh ph h1 h2 a (i h a (by rw [h1]; rfl) p q r z) q r z⟩
/-- one more put in -/
theorem LateV.put (L : LateV c b e j Pr H bk lk) {h t s : Int} {vh v : V} {sh : Int} {ph ps : List Int} (hb : valV bk (Sum.inl h) = some vh) (hc : CutAt H vh (sh, ph)) (hv : CutAt H v (s, ps)) (sd : Sound c b e (j + 1) t s ps) (le : s ≤ sh + c h t)
    (old : ∀ u r, valV lk (Sum.inl t) = some u → CutAt H u r → s ≤ r.1) : LateV c b e j (fun h' t' => Pr h' t' ∨ (h' = h ∧ t' = t)) H bk (putK lk (Sum.inl t) v) := by
  refine ⟨putK_nd L.nd, fun k u hk => ?_, fun h' vh' sh' ph' h1 h2 t' p q r z => ?_⟩
  · rw [valV_put] at hk
    split at hk
    · rename_i ek
      cases hk
      exact ⟨t, s, ps, ek, hv, sd⟩
    · exact L.snd k u hk
  · rw [valV_put]
    rcases p with p | ⟨rfl, rfl⟩
    · obtain ⟨u, s', ps', p1, p2, p3⟩ := L.cmp h' vh' sh' ph' h1 h2 t' p q r z
      by_cases et : t' = t
      · subst et
        rw [if_pos rfl]
        have := old u _ p1 p2
        exact ⟨v, s, ps, rfl, hv, by show s ≤ _; have : s ≤ s' := this; omega⟩
      · rw [if_neg (fun x => et (by injection x))]
        exact ⟨u, s', ps', p1, p2, p3⟩
    · rw [if_pos rfl]
      rw [hb] at h1
      cases h1
      have u := CutAt.uniq hc h2
      injection u with u1 u2
      exact ⟨v, s, ps, rfl, hv, by rw [← u1]; exact le⟩
/-- all have been gone through -/
theorem LateV.best (L : LateV c b e j (fun _ _ => True) H bk lk) (B : BestV c b e j H bk) : BestV c b e (j + 1) H lk := by
  refine ⟨L.nd, L.snd, fun qs t a l lt => ?_⟩
  obtain ⟨ps, h, eq, a', hl⟩ := asc_last a (by intro z; rw [z] at l; simp at l)
  have lp : ps.length = j := by rw [eq] at l; simpa using l
  obtain ⟨vh, sh, ph, h1, h2, h3⟩ := B.cmp ps h a' lp (by omega)
  have := asc_le a'
  obtain ⟨v, s, ps', p1, p2, p3⟩ := L.cmp h vh sh ph h1 h2 t trivial hl (by omega) (by omega)
  refine ⟨v, s, ps', p1, p2, ?_⟩
  rw [eq, cut_snoc a']
  omega
theorem LateV.last (L : LateV c b e j (fun _ _ => True) H bk lk) (B : BestV c b e j H bk) {qs : List Int} (a : Asc b qs e) (l : qs.length = j + 1) (h2j : 1 ≤ j) : ∃ v s ps, valV lk (Sum.inl e) = some v ∧ CutAt H v (s, ps) ∧ s ≤ cutSum c b qs := by
  obtain ⟨ps, h, eq, a', hl⟩ := asc_last a (by intro z; rw [z] at l; simp at l)
  have lp : ps.length = j := by rw [eq] at l; simpa using l
  obtain ⟨vh, sh, ph, h1, h2, h3⟩ := B.cmp ps h a' lp hl
  have := asc_le a'
  obtain ⟨v, s, ps', p1, p2, p3⟩ := L.cmp h vh sh ph h1 h2 e trivial hl (by omega) (by omega)
  refine ⟨v, s, ps', p1, p2, ?_⟩
  rw [eq, cut_snoc a']
  omega
theorem BestV.drop (B : BestV c b e j H bk) : BestV c b e j H (dropK bk (Sum.inl e)) := by
  refine ⟨?_, fun k v h => ?_, fun qs t x y z => ?_⟩
  · exact B.nd.sublist ((List.filter_sublist).map _)
  · rw [valV_drop] at h
    split at h
    · cases h
    · exact B.snd k v h
  · obtain ⟨v, s, ps, p, q, r⟩ := B.cmp qs t x y z
    refine ⟨v, s, ps, ?_, q, r⟩
    rw [valV_drop, if_neg (fun w => by injection w with w; omega)]
    exact p
end
def sp_cuts_of (K : PySem.W.Frag) : Sp := fun vs H Q E => match vs with
  | [dv, bv, ev, wv] => ∃ (dc : Addr) (cl : Costs) (b e : Int) (w : Nat), dv = .ref dc ∧ Rd H dc (.dT (encC cl)) ∧ bv = .int b ∧ ev = .int e ∧ wv = .int (w : Int) ∧ 0 ≤ b ∧ b + 2 ≤ e ∧ e ≤ b + 40 ∧ e ≤ 1000 ∧ 2 ≤ w ∧ w ≤ 6 ∧
    ∀ v H' s ps, CutAt H' v (s, ps) → BestCut (cOf cl) b e w s ps → Same H H' → Q v H'
  | _ => False
def t_cuts_of (K : PySem.W.Frag) (E : XK) : TS := (tSeq (tAsg (tDisp [ ((tVar 1) , (tTup (tConsC (.int 0) (tCons (tLst tNil) tNil)))) ]) (gName 4))
  (tSeq (tAsg (tC .non) (gName 5))
   (tSeq (tFor (iRng1 (tCons (tVar 3) tNil)) (gName 6) 
      (tSeq (tAsg tDNewK (gName 7))
      (tSeq (tLock (tFor (iKeys (tVar 4)) (gName 8) (tFor (iRng2 (tCons (tOpC xAdd (tVar 8) (.int 1)) (tCons (tOpC xAdd (tVar 2) (.int 1)) tNil))) (gName 9) (tIfS (tTest (tOp xLt (tOp xSub (tVar 9) (tVar 8)) (tOp xSub (tVar 2) (tVar 1)))) (tSeq (tAsg (tTup (tCons (tOp xAdd (tOpC (rIxT K) (tDGet (tVar 4) (tVar 8)) (.int 0)) (tDGet2 (tVar 0) (tTup (tCons (tVar 8) (tCons (tVar 9) tNil))) (tC (.int 0)))) (tCons (tOp rCat (tOpC (rIxT K) (tDGet (tVar 4) (tVar 8)) (.int 1)) (tLst (tCons (tVar 9) tNil))) tNil))) (gName 10)) (sDPut (tVar 7) (tVar 9) (tCB (rMinCut K) (tCons (tVar 10) (tCons (tDGet2 (tVar 7) (tVar 9) (tVar 10)) tNil))))) tNext))))
       (tSeq (tAsg (tVar 7) (gName 4))
        (tIfS (tAnd (tB (tDIn (tVar 2) (tVar 4))) (tOr (tTest (tOpC rIsN (tVar 5) .non)) (tTest (tOp (rLtCut K) (tDGet (tVar 4) (tVar 2)) (tVar 5))))) (tAsg (tDPop1 (tVar 4) (tVar 2)) (gName 5)) tNext)))))
    (tRet (tVar 5)))))
theorem Rd.same {H H' : Hp} {a : Addr} {u : HO} (s : Same H H') (r : Rd H a u) : Rd H' a u := by
  rcases r with r | ⟨o, r⟩
  · exact .inl (s _ _ r)
  · exact .inr ⟨o, s _ _ r⟩
theorem pure_cuts_of {K : PySem.W.Frag} : ∀ vs H Q E, sp_cuts_of K vs H Q E → t_cuts_of K E { nx := fun _ H' => Q .non H', rt := Q } (start N_cuts_of vs) H := by
  intro vs H Q E hyp
  match vs, hyp with
  | [dv, bv, ev, wv], hyp =>
    obtain ⟨dc, cl, b, e, w, rfl, hdc, rfl, rfl, rfl, b0, be, eb, e1000, w2, w6, k⟩ := hyp
    -- best
    refine fun db hdb => ⟨_, rfl, sz0, fun q hq => ⟨szle (by show 2 ≤ 100000; decide), fun t ht => ?_⟩⟩
    have s0 : Same H (upd (upd (upd H db (.dK [])) q (.lst [])) t (.tup [.int 0, .ref q])) := ((Rs.Same.new hdb).trans (Rs.Same.new hq)).trans (Rs.Same.new ht)
    have edb : upd (upd (upd H db (.dK [])) q (.lst [])) t (.tup [.int 0, .ref q]) db = some (.dK []) := un (un upd_same hq) ht
    have eq_ : upd (upd (upd H db (.dK [])) q (.lst [])) t (.tup [.int 0, .ref q]) q = some (.lst []) := un upd_same ht
    have et : upd (upd (upd H db (.dK [])) q (.lst [])) t (.tup [.int 0, .ref q]) t = some (.tup [.int 0, .ref q]) := upd_same
    generalize upd (upd (upd H db (.dK [])) q (.lst [])) t (.tup [.int 0, .ref q]) = H1 at s0 edb eq_ et ⊢
    refine ⟨edb, [(Sum.inl b, .ref t)], rfl, by show 1 ≤ 15; decide, ?_⟩
    have em : mergeK [] [((Sum.inl b : Key), V.ref t)] = [(Sum.inl b, .ref t)] := by
      rw [mergeK_app _ _ (by simp) (fun _ _ => rfl)]
      rfl
    rw [em]
    have t1 : TL H1 (upd H1 db (.dK [(Sum.inl b, .ref t)])) := TL.dk edb
    have s1 : Same H (upd H1 db (.dK [(Sum.inl b, .ref t)])) := Rs.Same.mut s0 hdb
    have edb1 : upd H1 db (.dK [(Sum.inl b, .ref t)]) db = some (.dK [(Sum.inl b, .ref t)]) := upd_same
    have ct : CutAt (upd H1 db (.dK [(Sum.inl b, .ref t)])) (.ref t) (0, []) := CutAt.tl t1 ⟨t, q, rfl, et, eq_⟩
    generalize upd H1 db (.dK [(Sum.inl b, .ref t)]) = H2 at t1 s1 edb1 ct ⊢
    have B0 : BestV (cOf cl) b e 0 H2 [(Sum.inl b, .ref t)] := by
      refine ⟨by simp, fun k v hk => ?_, fun qs t' a l lt => ?_⟩
      · by_cases ek : (Sum.inl b : Key) = k
        · rw [valV_pos ek] at hk
          cases hk
          exact ⟨b, 0, [], ek.symm, ct, rfl, rfl, rfl, by omega, fun z => by omega⟩
        · rw [valV_neg ek] at hk
          cases hk
      · have e0 : qs = [] := List.eq_nil_of_length_eq_zero l
        subst e0
        have a : b = t' := a
        subst a
        exact ⟨.ref t, 0, [], valV_pos rfl, ct, Int.le_refl _⟩
    refine ⟨_, rfl, _, rfl, by show _ ≤ (w : Int); omega, by show (w : Int) < _; omega, ?_⟩
    have ewn : ((w : Int)).toNat = w := by omega
    rw [ewn]
    refine for_range (lo := 0) (n := w) (fun j σ H' => ∃ (db : Addr) (bk : List (Key × V)) (x5 : V) (x6 x7 x8 x9 x10 : Option V), σ = [some (.ref dc), some (.int b), some (.int e), some (.int (w : Int)), some (.ref db), some x5, x6, x7, x8, x9, x10] ∧ H' db = some (.dK bk) ∧ H db = none ∧ BestV (cOf cl) b e j H' bk ∧ LeastV (cOf cl) b e j H' x5 ∧ Same H H')
      ⟨db, _, .non, none, none, none, none, none, rfl, edb1, hdb, B0, .inl ⟨rfl, fun qs _ h1 h2 => by omega⟩, s1⟩ ?_ ?_
    · clear B0 ct edb1 s1 t1 em et eq_ edb s0 ht hq hdb
      rintro j σ H3 hj ⟨db, bk, x5, x6, x7, x8, x9, x10, rfl, hdb, hdb0, B, Le, s3⟩
      -- later
      refine fun dl hdl => ?_
      have hdl0 : H dl = none := s3.free hdl
      have ndl : db ≠ dl := ne_of_none hdb hdl
      have s4 : Same H3 (upd H3 dl (.dK [])) := Rs.Same.new hdl
      have hdb4 := s4 _ _ hdb
      have hdl4 : upd H3 dl (.dK []) dl = some (.dK []) := upd_same
      have s04 := s3.trans s4
      have B4 := B.tl (TL.same s4)
      have Le4 : LeastV (cOf cl) b e j (upd H3 dl (.dK [])) x5 := by
        rcases Le with l | ⟨s, ps, l, r⟩
        · exact .inl l
        · exact .inr ⟨s, ps, l.tl (TL.same s4), r⟩
      generalize upd H3 dl (.dK []) = H4 at s4 hdb4 hdl4 s04 B4 Le4 ⊢
      clear s4 B Le hdb hdl s3
      have few := B4.few 40 (by omega)
      refine ⟨db, .dK bk, hdb4, trivial, fun od => ?_⟩
      have t5 : TL H4 (upd H4 db (.frz od (.dK bk))) := TL.dk hdb4
      have s05 : Same H (upd H4 db (.frz od (.dK bk))) := Rs.Same.mut s04 hdb0
      have hdl5 := up (u := .frz od (.dK bk)) hdl4 ndl.symm
      have hdb5 : upd H4 db (.frz od (.dK bk)) db = some (.frz od (.dK bk)) := upd_same
      have B5 := B4.tl t5
      have Le5 : LeastV (cOf cl) b e j (upd H4 db (.frz od (.dK bk))) x5 := by
        rcases Le4 with l | ⟨s, ps, l, r⟩
        · exact .inl l
        · exact .inr ⟨s, ps, l.tl t5, r⟩
      generalize upd H4 db (.frz od (.dK bk)) = H5 at t5 s05 hdl5 hdb5 B5 Le5 ⊢
      clear B4 Le4 hdl4 hdb4 s04 t5
      refine ⟨_, rfl, db, od, rfl, .inl ⟨bk, hdb5, ?_⟩⟩
      refine for_it (walk_keys (d := db) (o := od) (kvs := bk)) (fun i σ H' => ∃ (lk : List (Key × V)) (x8 x9 x10 : Option V), σ = [some (.ref dc), some (.int b), some (.int e), some (.int (w : Int)), some (.ref db), some x5, some (.int (0 + (j : Int))), some (.ref dl), x8, x9, x10] ∧ H' db = some (.frz od (.dK bk)) ∧ H' dl = some (.dK lk) ∧
          LateV (cOf cl) b e j (fun h t => ∃ i' v, i' < i ∧ bk[i']? = some (Sum.inl h, v)) H' bk lk ∧ TL H5 H' ∧ Same H H')
        ⟨[], x8, x9, x10, rfl, hdb5, hdl5, ⟨by simp, fun k v h => (by cases h), fun h vh sh ph h1 h2 t ⟨i', v, z, _⟩ => (by omega)⟩, TL.refl _, s05⟩ ?_ ?_ ?_
      · rintro i σ H' _ ⟨_, _, _, _, _, h, _⟩
        exact h
      · rintro i x σ H6 _ hi ⟨lk, x8, x9, x10, rfl, hdb6, hdl6, L6, t6, s6⟩ ⟨rfl, kk_, v_, hk, rfl⟩
        obtain ⟨vh, hvh⟩ := valV_of_mem (List.mem_of_getElem? hk)
        obtain ⟨h, sh, ph, rfl, ch, sdh⟩ := B5.snd _ _ hvh
        have ash := asc_le sdh.1
        have hlp := sdh.2.1
        have hle := sdh.2.2.2.1
        have csum := sdh.2.2.1
        refine ⟨_, rfl, _, _, rfl, rfl, _, rfl, _, _, rfl, rfl, _, _, rfl, ⟨by show _ ≤ h + 1; omega, by show h + 1 < _; omega, by show _ ≤ e + 1; omega, by show e + 1 < _; omega⟩, ?_⟩
        refine for_range (lo := h + 1) (n := (e + 1 - (h + 1)).toNat) (fun m σ H' => ∃ (lk : List (Key × V)) (x9 x10 : Option V), σ = [some (.ref dc), some (.int b), some (.int e), some (.int (w : Int)), some (.ref db), some x5, some (.int (0 + (j : Int))), some (.ref dl), some (.int h), x9, x10] ∧ H' db = some (.frz od (.dK bk)) ∧ H' dl = some (.dK lk) ∧
          LateV (cOf cl) b e j (fun h' t => (∃ i' v, i' < i ∧ bk[i']? = some (Sum.inl h', v)) ∨ (h' = h ∧ t < h + 1 + (m : Int))) H' bk lk ∧ TL H5 H' ∧ Same H H')
          ⟨lk, x9, x10, rfl, hdb6, hdl6, L6.imp fun h' t _ p q _ _ => by
            rcases p with p | ⟨p1, p2⟩
            · exact p
            · subst p1; omega, t6, s6⟩ ?_ ?_
        · clear hdb6 hdl6 L6 t6 s6
          rintro m σ H7 hm ⟨lk, x9, x10, rfl, hdb7, hdl7, L7, t7, s7⟩
          have B7 := B5.tl t7
          have ch7 := ch.tl t7
          generalize et_ : h + 1 + (m : Int) = t at L7 ⊢
          have few7 := L7.few 40 (by omega)
          refine ⟨_, rfl, _, rfl, _, _, rfl, rfl, _, rfl, _, rfl, _, _, rfl, rfl, _, _, rfl, rfl, _, rfl, ?_⟩
          by_cases cond : t - h < e - b
          · rw [decide_eq_true cond]
            obtain ⟨a, l, ea, h1, h2⟩ := id ch7
            have tb : IsTp H7 vh [.int sh, .ref l] := ⟨a, ea, h1⟩
            have gb : DGet H7 db (.int h) (some vh) := by
              rw [← hvh]
              exact .inl ⟨bk, Sum.inl h, .inr ⟨od, hdb7⟩, rfl, rfl⟩
            have gdc := Rd.same s7 hdc
            -- one
            refine ⟨_, rfl, _, rfl, db, vh, rfl, gb, ixT tb (j := 0) rfl rfl ⟨_, rfl, dc, rfl, .inr ⟨_, gdc⟩, _, rfl, _, rfl, szle (by show 2 ≤ 100000; decide), fun t1 ht1 => ?_⟩⟩
            have s8 : Same H7 (upd H7 t1 (.tup [.int h, .int t])) := Rs.Same.new ht1
            refine ⟨_, .inr ⟨encC cl, kk h t, t1, Rd.same s8 gdc, rfl, upd_same, rfl⟩, sh, cOf cl h t, rfl, enc_getD cl h t, ?_⟩
            have gb8 : DGet (upd H7 t1 (.tup [.int h, .int t])) db (.int h) (some vh) := by
              rw [← hvh]
              exact .inl ⟨bk, Sum.inl h, .inr ⟨od, s8 _ _ hdb7⟩, rfl, rfl⟩
            have tb8 := IsTp.mono (TupLe.same s8) tb
            have hl8 := s8 _ _ h2
            have s08 := s7.trans s8
            have hdb8 := s8 _ _ hdb7
            have hdl8 := s8 _ _ hdl7
            generalize upd H7 t1 (.tup [.int h, .int t]) = H8 at s8 gb8 tb8 hl8 s08 hdb8 hdl8 ⊢
            refine ⟨_, rfl, _, rfl, db, vh, rfl, gb8, ixT tb8 (j := 1) rfl rfl ⟨_, rfl, szle (by show 1 ≤ 100000; decide), fun q hq => ?_⟩⟩
            have s9 : Same H8 (upd H8 q (.lst [.int t])) := Rs.Same.new hq
            refine ⟨l, q, _, _, rfl, rfl, s9 _ _ hl8, upd_same, szle (by show (ph.map V.int).length + 1 ≤ 100000; rw [List.length_map, hlp]; omega), fun l2 hl2 => ⟨szle (by show 2 ≤ 100000; decide), fun t2 ht2 => ?_⟩⟩
            have s10 : Same H8 (upd (upd (upd H8 q (.lst [.int t])) l2 (.lst (ph.map V.int ++ [.int t]))) t2 (.tup [.int (sh + cOf cl h t), .ref l2])) := (s9.trans (Rs.Same.new hl2)).trans (Rs.Same.new ht2)
            have one : CutAt (upd (upd (upd H8 q (.lst [.int t])) l2 (.lst (ph.map V.int ++ [.int t]))) t2 (.tup [.int (sh + cOf cl h t), .ref l2])) (.ref t2) (sh + cOf cl h t, ph ++ [t]) := ⟨t2, l2, rfl, upd_same, by rw [List.map_append]; exact un upd_same ht2⟩
            generalize upd (upd (upd H8 q (.lst [.int t])) l2 (.lst (ph.map V.int ++ [.int t]))) t2 (.tup [.int (sh + cOf cl h t), .ref l2]) = H10 at s10 one ⊢
            have s710 := s8.trans s10
            have s010 := s08.trans s10
            have hdb10 := s10 _ _ hdb8
            have hdl10 := s10 _ _ hdl8
            have B10 := B7.tl (TL.same s710)
            have L10 := L7.tl B7 (TL.same s710)
            have ch10 := ch7.tl (TL.same s710)
            have t10 := t7.trans (TL.same s710)
            clear s9 s8 gb8 tb8 hl8 hdb8 hdl8 s10 hq hl2 ht2 ht1 L7 gb tb h1 h2 ea
            have sdt : Sound (cOf cl) b e (j + 1) t (sh + cOf cl h t) (ph ++ [t]) := by
              refine ⟨asc_snoc sdh.1 (by omega), by rw [List.length_append, hlp]; rfl, by rw [cut_snoc sdh.1, csum], by omega, fun z => ?_⟩
              have j0 : j = 0 := by omega
              have : ph = [] := List.eq_nil_of_length_eq_zero (by omega)
              have hb : b = h := by
                have := sdh.1
                rw [‹ph = []›] at this
                exact this
              omega
            -- what is put
            have fin : ∀ (v : V) (s : Int) (ps : List Int), CutAt H10 v (s, ps) → Sound (cOf cl) b e (j + 1) t s ps → s ≤ sh + cOf cl h t → (∀ u r, valV lk (Sum.inl t) = some u → CutAt H10 u r → s ≤ r.1) → ∀ x9 x10 : Option V,
                ∃ (lk' : List (Key × V)) (y9 y10 : Option V), ([some (.ref dc), some (.int b), some (.int e), some (.int (w : Int)), some (.ref db), some x5, some (.int (0 + (j : Int))), some (.ref dl), some (.int h), x9, x10] : L2.St) = [some (.ref dc), some (.int b), some (.int e), some (.int (w : Int)), some (.ref db), some x5, some (.int (0 + (j : Int))), some (.ref dl), some (.int h), y9, y10] ∧ upd H10 dl (.dK (putK lk (Sum.inl t) v)) db = some (.frz od (.dK bk)) ∧ upd H10 dl (.dK (putK lk (Sum.inl t) v)) dl = some (.dK lk') ∧
                LateV (cOf cl) b e j (fun h' t' => (∃ i' v, i' < i ∧ bk[i']? = some (Sum.inl h', v)) ∨ (h' = h ∧ t' < h + 1 + ((m + 1 : Nat) : Int))) (upd H10 dl (.dK (putK lk (Sum.inl t) v))) bk lk' ∧ TL H5 (upd H10 dl (.dK (putK lk (Sum.inl t) v))) ∧ Same H (upd H10 dl (.dK (putK lk (Sum.inl t) v))) := fun v s ps cv sv le old x9 x10 => by
              have t11 : TL H10 (upd H10 dl (.dK (putK lk (Sum.inl t) v))) := TL.dk hdl10
              refine ⟨_, x9, x10, rfl, up hdb10 ndl, upd_same, ?_, t10.trans t11, Rs.Same.mut s010 hdl0⟩
              refine ((L10.put hvh ch10 cv sv le old).imp fun h' t' _ p q _ _ => ?_).tl B10 t11
              rcases p with p | ⟨p1, p2⟩
              · exact .inl (.inl p)
              · by_cases et2 : t' = t
                · exact .inr ⟨p1, et2⟩
                · exact .inl (.inr ⟨p1, by omega⟩)
            refine ⟨_, rfl, _, rfl, dl, rfl, .inl ⟨lk, .inl hdl10⟩, _, rfl, _, rfl, _, DGet.k (k := Sum.inl t) hdl10, ?_⟩
            cases hv : valV lk (Sum.inl t) with
            | none =>
              exact ⟨_, _, _, _, rfl, one.dp, one.dp, fun _ => ⟨_, rfl, _, rfl, dl, _, rfl, DPut.k (k := Sum.inl t) hdl10 (szlt (by omega)), fin _ _ _ one sdt (Int.le_refl _) (fun u r z => by rw [hv] at z; cases z) _ _⟩, fun _ => ⟨_, rfl, _, rfl, dl, _, rfl, DPut.k (k := Sum.inl t) hdl10 (szlt (by omega)), fin _ _ _ one sdt (Int.le_refl _) (fun u r z => by rw [hv] at z; cases z) _ _⟩⟩
            | some u =>
              obtain ⟨t', su, pu, et2, cu, sdu⟩ := L10.snd _ _ hv
              injection et2 with et2
              subst et2
              refine ⟨_, _, _, _, rfl, one.dp, cu.dp, fun le => ⟨_, rfl, _, rfl, dl, _, rfl, DPut.k (k := Sum.inl t) hdl10 (szlt (by omega)), fin _ _ _ one sdt (Int.le_refl _) (fun u' r z zr => ?_) _ _⟩, fun le => ⟨_, rfl, _, rfl, dl, _, rfl, DPut.k (k := Sum.inl t) hdl10 (szlt (by omega)), fin _ _ _ cu sdu le (fun u' r z zr => ?_) _ _⟩⟩
              · rw [hv] at z
                cases z
                have := CutAt.uniq cu zr
                rw [← this]
                exact le
              · rw [hv] at z
                cases z
                have := CutAt.uniq cu zr
                rw [← this]
                exact Int.le_refl _
          · rw [decide_eq_false cond]
            refine ⟨lk, _, x10, rfl, hdb7, hdl7, L7.imp fun h' t' _ p q _ r => ?_, t7, s7⟩
            rcases p with p | ⟨p1, p2⟩
            · exact .inl p
            · by_cases et2 : t' = t
              · exfalso
                rw [et2, p1] at r
                exact cond r
              · exact .inr ⟨p1, by omega⟩
        · rintro σ H7 ⟨lk, x9, x10, rfl, hdb7, hdl7, L7, t7, s7⟩
          refine ⟨lk, _, x9, x10, rfl, hdb7, hdl7, L7.imp fun h' t' hs p q r _ => ?_, t7, s7⟩
          obtain ⟨i', v', p1, p2⟩ := p
          by_cases ei : i' = i
          · rw [ei, hk] at p2
            injection p2 with p2
            injection p2 with p2
            injection p2 with p2
            exact .inr ⟨p2.symm, by omega⟩
          · exact .inl ⟨i', v', by omega, p2⟩
      · rintro σ H6 ⟨lk, x8, x9, x10, rfl, hdb6, hdl6, L6, t6, s6⟩
        have B6 := B5.tl t6
        have La : LateV (cOf cl) b e j (fun _ _ => True) H6 bk lk := L6.imp fun h' t' hs _ _ _ _ => by
          obtain ⟨v, hv⟩ := Option.isSome_iff_exists.mp hs
          obtain ⟨i', hi'⟩ := valV_mem hv
          exact ⟨i', v, (List.getElem?_eq_some_iff.mp hi').1, hi'⟩
        refine ⟨hdb6, ?_⟩
        have t7 : TL H6 (upd H6 db (.dK bk)) := TL.fz hdb6
        have s7 : Same H (upd H6 db (.dK bk)) := Rs.Same.mut s6 hdb0
        have hdl7 := up (u := .dK bk) hdl6 ndl.symm
        have B7 := B6.tl t7
        have La7 := La.tl B6 t7
        have Le7 : LeastV (cOf cl) b e j (upd H6 db (.dK bk)) x5 := by
          rcases Le5 with l | ⟨s, ps, l, r⟩
          · exact .inl l
          · exact .inr ⟨s, ps, (l.tl t6).tl t7, r⟩
        generalize upd H6 db (.dK bk) = H7 at t7 s7 hdl7 B7 La7 Le7 ⊢
        clear La B6 B5 Le5 L6 t6 s6 hdb6 hdl6 hdb5 hdl5 s05 t7
        have B8 := La7.best B7
        refine ⟨_, rfl, ?_⟩
        refine ⟨_, rfl, _, rfl, dl, _, rfl, DGet.k (k := Sum.inl e) hdl7, _, rfl, ?_⟩
        cases hE : valV lk (Sum.inl e) with
        | none =>
          refine ⟨dl, lk, x5, _, _, x8, x9, x10, rfl, hdl7, hdl0, B8, ?_, s7⟩
          have nop : ∀ qs, Asc b qs e → 2 ≤ qs.length → qs.length = j + 1 → False := fun qs a h1 h2 => by
            obtain ⟨v, s, ps, z, _⟩ := La7.last B7 a h2 (by omega)
            rw [hE] at z
            cases z
          rcases Le7 with ⟨l1, l2⟩ | ⟨s, ps, l1, l2, l3, l4, l5, l6⟩
          · refine .inl ⟨l1, fun qs a h1 h2 => ?_⟩
            by_cases eq : qs.length = j + 1
            · exact nop qs a h1 eq
            · exact l2 qs a h1 (by omega)
          · refine .inr ⟨s, ps, l1, l2, l3, by omega, l5, fun qs a h1 h2 => ?_⟩
            by_cases eq : qs.length = j + 1
            · exact (nop qs a h1 eq).elim
            · exact l6 qs a h1 (by omega)
        | some ve =>
          obtain ⟨te, se, pe, ek, ce, sde⟩ := La7.snd _ _ hE
          injection ek with ek
          subst ek
          have j1 : 1 ≤ j := by
            rcases Nat.eq_zero_or_pos j with z | z
            · have := sde.2.2.2.2 (by omega)
              omega
            · exact z
          have mine : ∀ qs, Asc b qs e → qs.length = j + 1 → se ≤ cutSum (cOf cl) b qs := fun qs a h2 => by
            obtain ⟨v, s, ps, z, cz, le⟩ := La7.last B7 a h2 j1
            rw [hE] at z
            cases z
            have := CutAt.uniq ce cz
            injection this with u1 u2
            rw [u1]
            exact le
          have t8 : TL H7 (upd H7 dl (.dK (dropK lk (Sum.inl e)))) := TL.dk hdl7
          have pop : (∀ qs, Asc b qs e → 2 ≤ qs.length → qs.length ≤ j → se ≤ cutSum (cOf cl) b qs) → (tAsg (tDPop1 (tVar 4) (tVar 2)) (gName 5)) { nx := fun σ H' => ∃ (db : Addr) (bk : List (Key × V)) (x5 : V) (x6 x7 x8 x9 x10 : Option V), σ = [some (.ref dc), some (.int b), some (.int e), some (.int (w : Int)), some (.ref db), some x5, x6, x7, x8, x9, x10] ∧ H' db = some (.dK bk) ∧ H db = none ∧ BestV (cOf cl) b e (j + 1) H' bk ∧ LeastV (cOf cl) b e (j + 1) H' x5 ∧ Same H H', rt := Q } [some (.ref dc), some (.int b), some (.int e), some (.int (w : Int)), some (.ref dl), some x5, some (.int (0 + (j : Int))), some (.ref dl), x8, x9, x10] H7 := fun sm => by
            refine ⟨_, rfl, dl, rfl, .inl ⟨lk, .inl hdl7⟩, _, rfl, lk, Sum.inl e, ve, hdl7, rfl, hE, ?_⟩
            refine ⟨dl, _, ve, _, _, x8, x9, x10, rfl, upd_same, hdl0, (B8.drop).tl t8, .inr ⟨se, pe, ce.tl t8, sde.1, by rw [sde.2.1]; omega, by rw [sde.2.1]; exact Nat.le_refl _, sde.2.2.1, fun qs a h1 h2 => ?_⟩, Rs.Same.mut s7 hdl0⟩
            by_cases eq : qs.length = j + 1
            · exact mine qs a eq
            · exact sm qs a h1 (by omega)
          rcases Le7 with ⟨l1, l2⟩ | ⟨s, ps, l1, l2, l3, l4, l5, l6⟩
          · subst l1
            exact ⟨_, rfl, rfl, _, rfl, pop fun qs a h1 h2 => (l2 qs a h1 h2).elim⟩
          · have n5 : decide (x5 = V.non) = false := by
              obtain ⟨a, l, rfl, _⟩ := l1
              rfl
            refine ⟨_, rfl, rfl, _, rfl, ?_⟩
            rw [n5]
            refine ⟨_, rfl, _, rfl, dl, ve, rfl, ?_, _, rfl, _, _, ce.dp, l1.dp, fun bb hb1 hb2 => ⟨_, rfl, ?_⟩⟩
            · rw [← hE]
              exact DGet.k (k := Sum.inl e) hdl7
            cases bb with
            | true =>
              refine pop fun qs a h1 h2 => ?_
              have x1 : se ≤ s := hb1 rfl
              have x2 := l6 qs a h1 h2
              omega
            | false =>
              refine ⟨dl, lk, x5, _, _, x8, x9, x10, rfl, hdl7, hdl0, B8, .inr ⟨s, ps, l1, l2, l3, by omega, l5, fun qs a h1 h2 => ?_⟩, s7⟩
              have x1 : s ≤ se := hb2 rfl
              by_cases eq : qs.length = j + 1
              · have x2 := mine qs a eq
                omega
              · exact l6 qs a h1 (by omega)
    · rintro σ H3 ⟨db, bk, x5, x6, x7, x8, x9, x10, rfl, hdb3, hdb0, B3, Le3, s3⟩
      rcases Le3 with ⟨l1, l2⟩ | ⟨s, ps, l1, l2, l3, l4, l5, l6⟩
      · exact (l2 [b + 1, e] ⟨by omega, by omega, rfl⟩ (by show 2 ≤ 2; omega) (by show 2 ≤ w; omega)).elim
      · exact ⟨_, rfl, k x5 H3 s ps l1 ⟨l2, l3, l4, l5, l6⟩ s3⟩
end Rs

namespace Rs
open PySem PySem.Spec PyProof.Rows L2
/-! ### costs of neighbours -/
theorem stretch_mem {n : Nat} {p : Int × Int} : p ∈ stretchL n ↔ 0 ≤ p.1 ∧ p.1 + 2 ≤ p.2 ∧ p.2 ≤ n := by
  unfold stretchL
  rw [List.mem_flatMap]
  constructor
  · rintro ⟨k, hk, h⟩
    obtain ⟨b, hb, rfl⟩ := List.mem_map.mp h
    rw [List.mem_range] at hk hb
    refine ⟨by show (0 : Int) ≤ (b : Int); omega, by show (b : Int) + 2 ≤ (b : Int) + (2 + k); omega, by show (b : Int) + (2 + k) ≤ n; omega⟩
  · rintro ⟨h0, h1, h2⟩
    refine ⟨(p.2 - p.1 - 2).toNat, List.mem_range.mpr (by omega), List.mem_map.mpr ⟨p.1.toNat, List.mem_range.mpr (by omega), ?_⟩⟩
    exact Prod.ext (by show ((p.1.toNat : Nat) : Int) = p.1; omega) (by show ((p.1.toNat : Nat) : Int) + (2 + (((p.2 - p.1 - 2).toNat : Nat) : Int)) = p.2; omega)
def StLt (x y : Int × Int) : Prop := x.2 - x.1 < y.2 - y.1 ∨ (x.2 - x.1 = y.2 - y.1 ∧ x.1 < y.1)
theorem stretch_pw (n : Nat) : (stretchL n).Pairwise StLt := by
  unfold stretchL
  rw [List.pairwise_flatMap]
  refine ⟨fun k hk => ?_, ?_⟩
  · rw [List.pairwise_map]
    refine List.Pairwise.imp ?_ (List.pairwise_lt_range (n := n - 1 - k))
    intro a b h
    exact .inr ⟨by show (a : Int) + (2 + k) - a = (b : Int) + (2 + k) - b; omega, by show (a : Int) < b; omega⟩
  · refine List.Pairwise.imp ?_ (List.pairwise_lt_range (n := n - 1))
    intro a b h x hx y hy
    obtain ⟨i, _, rfl⟩ := List.mem_map.mp hx
    obtain ⟨j, _, rfl⟩ := List.mem_map.mp hy
    exact .inl (by show (i : Int) + (2 + a) - i < (j : Int) + (2 + b) - j; omega)
theorem cs_congr {c c' : Int → Int → Int} {b0 e : Int} (h : ∀ p q, b0 ≤ p → p < q → q ≤ e → ¬ (p = b0 ∧ q = e) → c p q = c' p q) : ∀ (ps : List Int) (b : Int), Asc b ps e → b0 ≤ b → (b0 < b ∨ 2 ≤ ps.length) → cutSum c b ps = cutSum c' b ps
  | [], b, _, _, _ => rfl
  | p :: ps, b, a, h0, h1 => by
    have l := asc_le a.2
    have ih := cs_congr h ps p a.2 (by have := a.1; omega) (.inl (by have := a.1; omega))
    show c b p + cutSum c p ps = c' b p + cutSum c' p ps
    rw [ih, h b p h0 a.1 (by omega) ?_]
    rintro ⟨e1, e2⟩
    rcases h1 with h1 | h1
    · omega
    · rw [List.length_cons] at h1
      omega
theorem BestCut.congr {c c' : Int → Int → Int} {b e : Int} {w : Nat} {s : Int} {ps : List Int} (B : BestCut c b e w s ps) (h : ∀ p q, b ≤ p → p < q → q ≤ e → ¬ (p = b ∧ q = e) → c p q = c' p q) : BestCut c' b e w s ps :=
  ⟨B.asc, B.two, B.le, by rw [B.sum]; exact cs_congr h ps b B.asc (Int.le_refl _) (.inr B.two), fun qs a h1 h2 => by rw [← cs_congr h qs b a (Int.le_refl _) (.inr h1)]; exact B.min qs a h1 h2⟩
theorem look_app {cl : Costs} {b e x : Int} {p q : Int} (h : cLook cl b e = none) : cLook (cl ++ [((b, e), x)]) p q = if (p, q) = (b, e) then some x else cLook cl p q := by
  unfold cLook at h ⊢
  rw [List.find?_append]
  by_cases z : (p, q) = (b, e)
  · rw [if_pos z, z]
    rw [Option.map_eq_none_iff] at h
    rw [h]
    simp
  · rw [if_neg z]
    have : ([((b, e), x)] : Costs).find? (fun r => decide (r.1 = (p, q))) = none := by
      rw [List.find?_cons, decide_eq_false (fun y => z y.symm)]
      rfl
    rw [this]
    cases cl.find? fun r => decide (r.1 = (p, q)) <;> rfl
theorem look_none {cl : Costs} {b e : Int} (h : (b, e) ∉ cl.map (·.1)) : cLook cl b e = none := by
  unfold cLook
  rw [Option.map_eq_none_iff, List.find?_eq_none]
  intro q hq z
  exact h (by rw [← of_decide_eq_true z]; exact List.mem_map_of_mem hq)
/-- the lengths from b up to ahead of e, together -/
def segL (ls : List Int) (b e : Int) : List Int := (ls.drop b.toNat).take (e.toNat - b.toNat)
/-- the costs of all stretches among xs are as they should be, by the places el -/
structure NbOk (xs : List (Int × Int)) (ls : List Int) (w : Nat) (cl : Costs) (el : Int → Int → List Int) : Prop where
  keys : cl.map (·.1) = xs
  best : ∀ b e, (b, e) ∈ xs → ∃ s, BestCut (cOf cl) b e w s (el b e) ∧ cOf cl b e = s + (segL ls b e).sum
def EndsV (xs : List (Int × Int)) (H : Hp) (ek : List (List Key × V)) (el : Int → Int → List Int) : Prop := ∀ b e, (b, e) ∈ xs → ∃ l, valV ek (kk b e) = some (.ref l) ∧ H l = some (.lst ((el b e).map V.int))
theorem EndsV.tl {xs : List (Int × Int)} {H H' : Hp} {ek : List (List Key × V)} {el : Int → Int → List Int} (h : EndsV xs H ek el) (t : TL H H') : EndsV xs H' ek el := fun b e m => let ⟨l, a, c⟩ := h b e m; ⟨l, a, t.2 _ _ c⟩
theorem NbOk.add {ls : List Int} {w : Nat} {xs : List (Int × Int)} {cl : Costs} {el : Int → Int → List Int} {b e s : Int} {ps : List Int} (N : NbOk xs ls w cl el) (pw : (xs ++ [(b, e)]).Pairwise StLt) (B : BestCut (cOf cl) b e w s ps) :
    NbOk (xs ++ [(b, e)]) ls w (cl ++ [((b, e), s + (segL ls b e).sum)]) (fun p q => if (p, q) = (b, e) then ps else el p q) := by
  have lt : ∀ x ∈ xs, StLt x (b, e) := fun x hx => (List.pairwise_append.mp pw).2.2 x hx _ (List.mem_singleton.mpr rfl)
  have nin : (b, e) ∉ xs := fun h => by
    have := lt _ h
    rcases this with z | ⟨_, z⟩ <;> exact absurd z (Int.lt_irrefl _)
  have ln : cLook cl b e = none := look_none (by rw [N.keys]; exact nin)
  have cs : ∀ p q, ¬ (p = b ∧ q = e) → cOf cl p q = cOf (cl ++ [((b, e), s + (segL ls b e).sum)]) p q := fun p q h => by
    unfold cOf
    rw [look_app ln, if_neg (fun z => h (by injection z with z1 z2; exact ⟨z1, z2⟩))]
  refine ⟨by rw [List.map_append, N.keys]; rfl, fun p q h => ?_⟩
  rcases List.mem_append.mp h with h | h
  · have ne : (p, q) ≠ (b, e) := fun z => nin (by rw [← z]; exact h)
    obtain ⟨s', B', e'⟩ := N.best p q h
    rw [if_neg ne]
    refine ⟨s', B'.congr fun p' q' h1 h2 h3 h4 => cs p' q' fun ⟨z1, z2⟩ => ?_, ?_⟩
    · have := lt _ h
      rcases this with z | ⟨z, _⟩
      · have z : q - p < e - b := z
        omega
      · have z : q - p = e - b := z
        exact h4 ⟨by omega, by omega⟩
    · rw [← cs p q (fun ⟨z1, z2⟩ => ne (by rw [z1, z2]))]
      exact e'
  · have z : (p, q) = (b, e) := by simpa using h
    injection z with z1 z2
    subst z1 z2
    rw [if_pos rfl]
    refine ⟨s, B.congr fun p' q' _ _ _ h4 => cs p' q' h4, ?_⟩
    unfold cOf
    rw [look_app ln, if_pos rfl]
    rfl
/-! ### the plan by the places -/
def plParts (g : Int → Int → Pl) : Int → List Int → List Pl
  | _, [] => []
  | b, p :: ps => g b p :: plParts g p ps
def plOf (el : Int → Int → List Int) : Nat → Int → Int → Pl
  | 0, b, _ => .leaf b
  | d + 1, b, e => if e - b = 1 then .leaf b else .node (plParts (plOf el d) b (el b e))
theorem plParts_snoc {g : Int → Int → Pl} : ∀ (ps : List Int) (b q : Int), plParts g b (ps ++ [q]) = plParts g b ps ++ [g (ps.getLastD b) q]
  | [], b, q => rfl
  | p :: ps, b, q => by
    show g b p :: plParts g p (ps ++ [q]) = g b p :: (plParts g p ps ++ [g ((p :: ps).getLastD b) q])
    rw [plParts_snoc ps p q, List.getLastD_cons]
theorem asc_split : ∀ {xs ys : List Int} {b p e : Int}, Asc b (xs ++ p :: ys) e → Asc b xs (xs.getLastD b) ∧ xs.getLastD b < p ∧ Asc p ys e
  | [], ys, b, p, e, a => ⟨rfl, a.1, a.2⟩
  | x :: xs, ys, b, p, e, a => by
    obtain ⟨h1, h2, h3⟩ := asc_split (xs := xs) (b := x) a.2
    rw [List.getLastD_cons]
    exact ⟨⟨a.1, h1⟩, h2, h3⟩
theorem plParts_len {g : Int → Int → Pl} : ∀ (ps : List Int) (b : Int), (plParts g b ps).length = ps.length
  | [], b => rfl
  | p :: ps, b => by
    show (plParts g p ps).length + 1 = ps.length + 1
    rw [plParts_len ps p]
def rng (b e : Int) : List Int := (List.range (e - b).toNat).map fun (i : Nat) => b + (i : Int)
theorem rng_app {b p e : Int} (h1 : b ≤ p) (h2 : p ≤ e) : rng b p ++ rng p e = rng b e := by
  unfold rng
  have e1 : (e - b).toNat = (p - b).toNat + (e - p).toNat := by omega
  rw [e1, List.range_add, List.map_append, List.map_map]
  congr 1
  refine List.map_congr_left fun i _ => ?_
  show p + (i : Int) = b + (((p - b).toNat + i : Nat) : Int)
  omega
theorem rng_one {b : Int} : rng b (b + 1) = [b] := by
  unfold rng
  have : (b + 1 - b).toNat = 1 := by omega
  rw [this]
  show [b + ((0 : Nat) : Int)] = [b]
  simp
/-- proper cuts -/
def EndsOk (n : Nat) (w : Nat) (el : Int → Int → List Int) : Prop := ∀ b e, (b, e) ∈ stretchL n → Asc b (el b e) e ∧ 2 ≤ (el b e).length ∧ (el b e).length ≤ w
theorem plParts_runs {g : Int → Int → Pl} {w : Nat} : ∀ (ps : List Int) (b e : Int), Asc b ps e → (∀ p q, b ≤ p → p < q → q ≤ e → (b < p ∨ q < e ∨ ps.length = 1) → (g p q).runs = rng p q ∧ (g p q).fits w = true) → Pl.runsL (plParts g b ps) = rng b e ∧ Pl.fitsL w (plParts g b ps) = true
  | [], b, e, a, _ => by
    have a : b = e := a
    subst a
    refine ⟨?_, rfl⟩
    unfold rng
    have : (b - b).toNat = 0 := by omega
    rw [this]
    rfl
  | p :: ps, b, e, a, h => by
    have l := asc_le a.2
    have a1 := a.1
    have g1 := h b p (Int.le_refl _) a1 (by omega) (by
      cases ps with
      | nil => exact .inr (.inr rfl)
      | cons q ps => exact .inr (.inl (by rw [List.length_cons] at l; omega)))
    have ih := plParts_runs (g := g) (w := w) ps p e a.2 fun p' q' h1 h2 h3 _ => h p' q' (by omega) h2 h3 (.inl (by omega))
    refine ⟨?_, ?_⟩
    · show (g b p).runs ++ Pl.runsL (plParts g p ps) = rng b e
      rw [g1.1, ih.1]
      exact rng_app (by omega) (by omega)
    · show ((g b p).fits w && Pl.fitsL w (plParts g p ps)) = true
      rw [g1.2, ih.2]
      rfl
theorem plOf_ok {n w : Nat} {el : Int → Int → List Int} (E : EndsOk n w el) : ∀ (d : Nat) (b e : Int), 0 ≤ b → b < e → e ≤ n → e - b ≤ d → (plOf el d b e).runs = rng b e ∧ (plOf el d b e).fits w = true
  | 0, b, e, _, h, _, h2 => by omega
  | d + 1, b, e, h0, h, h1, h2 => by
    unfold plOf
    by_cases e1 : e - b = 1
    · rw [if_pos e1]
      have : e = b + 1 := by omega
      subst this
      exact ⟨rng_one.symm, rfl⟩
    · rw [if_neg e1]
      obtain ⟨a, l2, lw⟩ := E b e (stretch_mem.mpr ⟨h0, by show b + 2 ≤ e; omega, h1⟩)
      obtain ⟨r1, r2⟩ := plParts_runs (g := plOf el d) (w := w) (el b e) b e a fun p q z1 z2 z3 z4 => plOf_ok E d p q (by omega) z2 (by omega) (by omega)
      refine ⟨r1, ?_⟩
      show ((decide (2 ≤ (plParts (plOf el d) b (el b e)).length) && decide ((plParts (plOf el d) b (el b e)).length ≤ w)) && Pl.fitsL w (plParts (plOf el d) b (el b e))) = true
      rw [plParts_len, decide_eq_true l2, decide_eq_true lw, r2]
      rfl
abbrev N_neighbours_of : List Str := ["lengths", "ways", "costs", "ends", "begin", "end", "least", "places"]
abbrev P_neighbours_of : List Str := ["lengths", "ways"]
def sp_neighbours_of (K : PySem.W.Frag) : Sp := fun vs H Q E => match vs with
  | [lv, wv] => ∃ (l : Addr) (ls : List Int) (w : Nat), lv = .ref l ∧ H l = some (.lst (ls.map V.int)) ∧ ls.length ≤ 40 ∧ wv = .int (w : Int) ∧ 2 ≤ w ∧ w ≤ 6 ∧
    ∀ t dc de cl ek el H', H t = none → H dc = none → H' t = some (.tup [.ref dc, .ref de]) → H' dc = some (.dT (encC cl)) → H' de = some (.dT ek) → EndsV (stretchL ls.length) H' ek el → NbOk (stretchL ls.length) ls w cl el → Same H H' → Q (.ref t) H'
  | _ => False
def t_neighbours_of (K : PySem.W.Frag) (E : XK) : TS := (tSeq (tAsg tDNewT (gName 2))
  (tSeq (tAsg tDNewT (gName 3))
   (tSeq (tFor (iList K (tCall (sp_stretches K) [] E (tCons (tCB1 (xLen K) (tVar 0)) tNil))) (gTup K 2 (gCons (gName 4) (gCons (gName 5) gNil))) 
      (tSeq (tAsg (tCall (sp_cuts_of K) [] E (tCons (tVar 2) (tCons (tVar 4) (tCons (tVar 5) (tCons (tVar 1) tNil))))) (gTup K 2 (gCons (gName 6) (gCons (gName 7) gNil))))
      (tSeq (sDPut (tVar 2) (tTup (tCons (tVar 4) (tCons (tVar 5) tNil))) (tOp xAdd (tVar 6) (tCB1 (rSum K) (tSl (rSlL K) (tVar 0) (tPart (tVar 4)) (tPart (tVar 5))))))
       (sDPut (tVar 3) (tTup (tCons (tVar 4) (tCons (tVar 5) tNil))) (tVar 7)))))
    (tRet (tTup (tCons (tVar 2) (tCons (tVar 3) tNil)))))))
theorem stretch_len {n : Nat} (h : n ≤ 40) : (stretchL n).length ≤ 1600 := by
  have := flat_le h (n - 1) (Nat.le_refl _)
  unfold stretchL
  omega
theorem pure_neighbours_of {K : PySem.W.Frag} : ∀ vs H Q E, sp_neighbours_of K vs H Q E → t_neighbours_of K E { nx := fun _ H' => Q .non H', rt := Q } (start N_neighbours_of vs) H := by
  intro vs H Q E hyp
  match vs, hyp with
  | [lv, wv], hyp =>
    obtain ⟨l, ls, w, rfl, hl, l40, rfl, w2, w6, k⟩ := hyp
    refine fun dc hdc => fun de hde => ?_
    have s1 : Same H (upd (upd H dc (.dT [])) de (.dT [])) := (Rs.Same.new hdc).trans (Rs.Same.new hde)
    have edc : upd (upd H dc (.dT [])) de (.dT []) dc = some (.dT (encC [])) := un upd_same hde
    have ede : upd (upd H dc (.dT [])) de (.dT []) de = some (.dT []) := upd_same
    have nd : dc ≠ de := ne_of_none upd_same hde
    have hde0 : H de = none := (Rs.Same.new hdc).free hde
    generalize upd (upd H dc (.dT [])) de (.dT []) = H1 at s1 edc ede ⊢
    refine ⟨_, rfl, lenL (s1 _ _ hl) rfl ?_⟩
    refine ⟨ls.length, by rw [List.length_map], l40, fun lx H2 hlx Lx s2 => ?_⟩
    have s02 := s1.trans s2
    have edc2 := s2 _ _ edc
    have ede2 := s2 _ _ ede
    clear s1 s2 edc ede hde
    obtain ⟨xv, ex, px⟩ := Lx
    have lxl := px.length
    have sl := stretch_len l40
    refine ⟨lx, rfl, ⟨_, SqL.of ex⟩, ?_⟩
    refine for_list (K := K) (a := lx) (xs := xv) (fun i σ H' => ∃ (cl : Costs) (ek : List (List Key × V)) (el : Int → Int → List Int) (x4 x5 x6 x7 : Option V), σ = [some (.ref l), some (.int (w : Int)), some (.ref dc), some (.ref de), x4, x5, x6, x7] ∧ H' dc = some (.dT (encC cl)) ∧ H' de = some (.dT ek) ∧ ek.length ≤ i ∧ EndsV ((stretchL ls.length).take i) H' ek el ∧ NbOk ((stretchL ls.length).take i) ls w cl el ∧ TL H2 H' ∧ Same H H')
      ⟨[], [], fun _ _ => [], none, none, none, none, rfl, edc2, ede2, Nat.le_refl _, fun b e h => by simp at h, ⟨rfl, fun b e h => by simp at h⟩, TL.refl _, s02⟩ ?_ ?_ ?_
    · rintro i σ H' _ ⟨_, _, _, _, _, _, _, _, _, _, _, _, _, t, _⟩
      exact SqL.of (t.2 _ _ ex)
    · rintro i v σ H3 hi ⟨cl, ek, el, x4, x5, x6, x7, rfl, hdc3, hde3, ekl, EV, N, t3, s3⟩
      obtain ⟨⟨b, e⟩, hx, tx, rfl, etx⟩ := P2.get px hi
      have hil := (List.getElem?_eq_some_iff.mp hx).1
      obtain ⟨m0, m2, mn⟩ := stretch_mem.mp (List.mem_of_getElem? hx)
      dsimp only at m0 m2 mn etx
      have tk : (stretchL ls.length).take (i + 1) = (stretchL ls.length).take i ++ [(b, e)] := by rw [List.take_succ, hx] <;> rfl
      have pw : ((stretchL ls.length).take i ++ [(b, e)]).Pairwise StLt := by
        rw [← tk]
        exact (stretch_pw ls.length).sublist (List.take_sublist _ _)
      have cll : cl.length = ((stretchL ls.length).take i).length := by rw [← N.keys, List.length_map]
      rw [List.length_take] at cll
      refine ⟨tx, _, rfl, SqT.of (t3.1 _ _ etx), rfl, _, _, rfl, _, _, rfl, rfl, ?_⟩
      refine ⟨_, rfl, _, rfl, _, rfl, _, rfl, dc, cl, b, e, w, rfl, .inl hdc3, rfl, rfl, rfl, m0, m2, by omega, by omega, w2, w6, fun v H4 s ps cv B s4 => ?_⟩
      obtain ⟨a, lp, rfl, ha, hlp⟩ := cv
      have hlp : H4 lp = some (.lst (ps.map V.int)) := hlp
      refine ⟨a, _, rfl, SqT.of ha, rfl, _, _, rfl, _, _, rfl, rfl, ?_⟩
      have s04 := s3.trans s4
      have t4 := t3.trans (TL.same s4)
      have hdc4 := s4 _ _ hdc3
      have hde4 := s4 _ _ hde3
      have EV4 := EV.tl (TL.same s4)
      -- costs
      have eb : b = ((b.toNat : Nat) : Int) := by omega
      have ee : e = ((e.toNat : Nat) : Int) := by omega
      refine ⟨_, rfl, _, rfl, _, rfl, _, rfl, _, rfl, _, rfl, l, _, rfl, SqL.of (s04 _ _ hl), fun p hp => ⟨p, segL ls b e, rfl, SqL.of ?_, ?_⟩⟩
      · rw [upd_same]
        congr 2
        conv => lhs; rw [eb, ee]
        rw [cut_mid]
        unfold segL
        rw [List.map_take, List.map_drop]
      have s5 : Same H4 (upd H4 p (.lst (cutV (ls.map V.int) (some b) (some e)))) := Rs.Same.new hp
      generalize upd H4 p (.lst (cutV (ls.map V.int) (some b) (some e))) = H5 at s5 ⊢
      have ln : cLook cl b e = none := look_none (by
        rw [N.keys]
        intro z
        have := (List.pairwise_append.mp pw).2.2 _ z _ (List.mem_singleton.mpr rfl)
        rcases this with y | ⟨_, y⟩ <;> exact absurd y (Int.lt_irrefl _))
      have vn : valV (encC cl) (kk b e) = none := by rw [enc_val, ln]; rfl
      refine ⟨_, _, rfl, rfl, _, rfl, _, rfl, _, rfl, szle (by show 2 ≤ 100000; decide), fun t1 ht1 => ?_⟩
      have s6 : Same H5 (upd H5 t1 (.tup [.int b, .int e])) := Rs.Same.new ht1
      have et1 : upd H5 t1 (.tup [.int b, .int e]) t1 = some (.tup ((kk b e).map kV)) := upd_same
      generalize upd H5 t1 (.tup [.int b, .int e]) = H6 at s6 et1 ⊢
      have s46 := s5.trans s6
      have hdc6 := s46 _ _ hdc4
      have hde6 := s46 _ _ hde4
      refine ⟨dc, _, rfl, DPut.t (k := kk b e) hdc6 et1 (szlt (by unfold encC; rw [List.length_map]; omega)), ?_⟩
      have ec : putK (encC cl) (kk b e) (V.int (s + (segL ls b e).sum)) = encC (cl ++ [((b, e), s + (segL ls b e).sum)]) := by
        rw [putK_new _ vn]
        unfold encC
        rw [List.map_append]
        rfl
      rw [ec]
      have t7 : TL H6 (upd H6 dc (.dT (encC (cl ++ [((b, e), s + (segL ls b e).sum)])))) := TL.put hdc6 (fun _ z => by cases z) (fun _ z => by cases z)
      have s7 : Same H (upd H6 dc (.dT (encC (cl ++ [((b, e), s + (segL ls b e).sum)])))) := Rs.Same.mut (s04.trans s46) hdc
      have hde7 := up (u := .dT (encC (cl ++ [((b, e), s + (segL ls b e).sum)]))) hde6 nd.symm
      have hdc7 : upd H6 dc (.dT (encC (cl ++ [((b, e), s + (segL ls b e).sum)]))) dc = some _ := upd_same
      generalize upd H6 dc (.dT (encC (cl ++ [((b, e), s + (segL ls b e).sum)]))) = H7 at t7 s7 hde7 hdc7 ⊢
      -- ends
      refine ⟨_, rfl, _, rfl, _, rfl, _, rfl, szle (by show 2 ≤ 100000; decide), fun t2 ht2 => ?_⟩
      have s8 : Same H7 (upd H7 t2 (.tup [.int b, .int e])) := Rs.Same.new ht2
      have et2 : upd H7 t2 (.tup [.int b, .int e]) t2 = some (.tup ((kk b e).map kV)) := upd_same
      generalize upd H7 t2 (.tup [.int b, .int e]) = H8 at s8 et2 ⊢
      have hdc8 := s8 _ _ hdc7
      have hde8 := s8 _ _ hde7
      refine ⟨de, _, rfl, DPut.t (k := kk b e) hde8 et2 (szlt (by omega)), ?_⟩
      have t9 : TL H8 (upd H8 de (.dT (putK ek (kk b e) (.ref lp)))) := TL.put hde8 (fun _ z => by cases z) (fun _ z => by cases z)
      have tt := (((TL.same s46).trans t7).trans (TL.same s8)).trans t9
      refine ⟨_, _, _, _, _, _, _, rfl, up hdc8 nd, upd_same, ?_, ?_, by rw [tk]; exact N.add pw B, t4.trans tt, Rs.Same.mut (s7.trans s8) hde0⟩
      · have := length_putK ek (kk b e) (.ref lp)
        omega
      · rw [tk]
        intro p' q' hm
        rw [valV_put]
        rcases List.mem_append.mp hm with z | z
        · have ne : (p', q') ≠ (b, e) := fun y => by
            have := (List.pairwise_append.mp pw).2.2 _ z _ (List.mem_singleton.mpr rfl)
            rw [y] at this
            rcases this with x | ⟨_, x⟩ <;> exact absurd x (Int.lt_irrefl _)
          rw [if_neg (fun y => ne (by obtain ⟨y1, y2⟩ := kk_inj y; rw [y1, y2]))]
          dsimp only
          rw [if_neg ne]
          exact (EV4.tl tt) p' q' z
        · have z : (p', q') = (b, e) := by simpa using z
          injection z with z1 z2
          subst z1 z2
          rw [if_pos rfl]
          dsimp only
          rw [if_pos rfl]
          exact ⟨lp, rfl, tt.2 _ _ hlp⟩
    · rintro σ H3 ⟨cl, ek, el, x4, x5, x6, x7, rfl, hdc3, hde3, ekl, EV, N, t3, s3⟩
      rw [List.take_of_length_le (by omega)] at EV N
      refine ⟨_, rfl, _, rfl, szle (by show 2 ≤ 100000; decide), fun t ht => ?_⟩
      have s4 : Same H3 (upd H3 t (.tup [.ref dc, .ref de])) := Rs.Same.new ht
      exact k t dc de cl ek el _ (s3.free ht) hdc upd_same (s4 _ _ hdc3) (s4 _ _ hde3) (EV.tl (TL.same s4)) N (s3.trans s4)
end Rs

namespace Rs
open PySem PySem.Spec PyProof.Rows L2
abbrev N_plan_of : List Str := ["ends", "begin", "end", "found", "place"]
abbrev P_plan_of : List Str := ["ends", "begin", "end"]
def spr_plan_of (K : PySem.W.Frag) (d : Nat) : Sp := fun vs H Q E => match vs with
  | [ev, bv, fv] => ∃ (de : Addr) (ek : List (List Key × V)) (el : Int → Int → List Int) (n w : Nat) (b e : Int), ev = .ref de ∧ H de = some (.dT ek) ∧ EndsV (stretchL n) H ek el ∧ EndsOk n w el ∧ w ≤ 1000 ∧ n ≤ 40 ∧ bv = .int b ∧ fv = .int e ∧ 0 ≤ b ∧ b < e ∧ e ≤ n ∧ e - b ≤ d ∧
    ∀ v H', PlR H' v (plOf el d b e) → Same H H' → Q v H'
  | _ => False
abbrev sp_plan_of (K : PySem.W.Frag) : Sp := spr_plan_of K 42
theorem no_plan_of (K : PySem.W.Frag) : ∀ vs H Q E, ¬ spr_plan_of K 0 vs H Q E := fun vs H Q E h => by
  unfold spr_plan_of at h
  match vs, h with
  | [_, _, _], ⟨_, _, _, _, _, b, e, _, _, _, _, _, _, _, _, h1, h2, h3, h4, _⟩ => omega
theorem len_plan_of (K : PySem.W.Frag) : ∀ d vs H Q E, spr_plan_of K d vs H Q E → vs.length = 3 := fun d vs H Q E h => by
  unfold spr_plan_of at h
  match vs, h with
  | [_, _, _], _ => rfl
def t_plan_of (K : PySem.W.Frag) (sp : Sp) (E : XK) : TS := (tSeq (tIfS (tTest (tOpC rEq (tOp xSub (tVar 2) (tVar 1)) (.int 1))) (tRet (tVar 1)) tNext)
  (tSeq (tAsg (tLst tNil) (gName 3))
   (tSeq (tFor (iList K (tDGet (tVar 0) (tTup (tCons (tVar 1) (tCons (tVar 2) tNil))))) (gName 4) 
      (tSeq (tDrop (tBM K "list" rAppend (tVar 3) (tCons (tCall sp [] E (tCons (tVar 0) (tCons (tVar 1) (tCons (tVar 4) tNil)))) tNil)))
      (tAsg (tVar 4) (gName 1))))
    (tRet (tCB1 (xTuple K) (tVar 3))))))
theorem pure_plan_of {K : PySem.W.Frag} (d : Nat) : ∀ vs H Q E, spr_plan_of K (d + 1) vs H Q E → t_plan_of K (spr_plan_of K d) E { nx := fun _ H' => Q .non H', rt := Q } (start N_plan_of vs) H := by
  intro vs H Q E hyp
  unfold spr_plan_of at hyp
  match vs, hyp with
  | [ev, bv, fv], hyp =>
    obtain ⟨de, ek, el, n, w, b, e, rfl, hde, EV, EO, w1, n40, rfl, rfl, h0, h1, h2, h3, k⟩ := hyp
    refine ⟨_, rfl, _, rfl, _, _, rfl, rfl, rfl, _, rfl, ?_⟩
    dsimp only
    by_cases e1 : e - b = 1
    · have ed : decide (V.int (e - b) = V.int 1) = true := decide_eq_true (by rw [e1])
      rw [ed]
      refine ⟨_, rfl, k _ H ?_ (Same.refl H)⟩
      unfold plOf
      rw [if_pos e1]
      exact .leaf b
    · have ed : decide (V.int (e - b) = V.int 1) = false := decide_eq_false fun z => e1 (by injection z)
      rw [ed]
      have hm : (b, e) ∈ stretchL n := stretch_mem.mpr ⟨h0, by show b + 2 ≤ e; omega, h2⟩
      obtain ⟨asc, l2, lw⟩ := EO b e hm
      refine ⟨sz0, fun f hf => ?_⟩
      have s1 : Same H (upd H f (.lst [])) := Rs.Same.new hf
      have ef : upd H f (.lst []) f = some (.lst []) := upd_same
      generalize upd H f (.lst []) = H1 at s1 ef ⊢
      refine ⟨_, rfl, _, rfl, _, rfl, szle (by show 2 ≤ 100000; decide), fun t ht => ?_⟩
      have s2 : Same H1 (upd H1 t (.tup [.int b, .int e])) := Rs.Same.new ht
      have et : upd H1 t (.tup [.int b, .int e]) t = some (.tup ((kk b e).map kV)) := upd_same
      generalize upd H1 t (.tup [.int b, .int e]) = H2 at s2 et ⊢
      have s02 := s1.trans s2
      obtain ⟨lp, hv, hlp⟩ := EV b e hm
      have hlp2 := s02 _ _ hlp
      refine ⟨de, _, rfl, ?_, lp, rfl, ⟨_, SqL.of hlp2⟩, ?_⟩
      · rw [← hv]
        exact DGet.t (s02 _ _ hde) et
      refine for_list (K := K) (a := lp) (xs := (el b e).map V.int) (fun i σ H' => ∃ x4, σ = [some (.ref de), some (.int (((el b e).take i).getLastD b)), some (.int e), some (.ref f), x4] ∧ Lst PlR H' f (plParts (plOf el d) b ((el b e).take i)) ∧ Same H H')
        ⟨none, rfl, ⟨[], s2 _ _ ef, .nil⟩, s02⟩ ?_ ?_ ?_
      · rintro i σ H' _ ⟨_, _, _, s⟩
        exact SqL.of (s _ _ hlp)
      · rintro i v σ H3 hi ⟨x4, rfl, ⟨fv, ef3, pf3⟩, s3⟩
        rw [List.getElem?_map] at hi
        obtain ⟨p, hp, rfl⟩ := Option.map_eq_some_iff.mp hi
        have hil := (List.getElem?_eq_some_iff.mp hp).1
        have split : el b e = (el b e).take i ++ p :: (el b e).drop (i + 1) := by rw [← drop_cons hp, List.take_append_drop]
        have asc' := asc
        rw [split] at asc'
        obtain ⟨a1, a2, a3⟩ := asc_split asc'
        have l1 := asc_le a1
        have l3 := asc_le a3
        have lp3 := pf3.length
        rw [plParts_len, List.length_take] at lp3
        have tk : (el b e).take (i + 1) = (el b e).take i ++ [p] := by rw [List.take_succ, hp] <;> rfl
        have small : p - ((el b e).take i).getLastD b ≤ d := by
          rw [List.length_take] at l1
          rw [List.length_drop] at l3
          omega
        refine ⟨_, rfl, .inl ⟨rfl, _, SqL.of ef3⟩, _, rfl, _, rfl, _, rfl, ?_⟩
        refine ⟨de, ek, el, n, w, _, p, rfl, s3 _ _ hde, EV.tl (TL.same s3), EO, w1, n40, rfl, rfl, by omega, a2, by omega, small, fun v H4 hv4 s4 => ?_⟩
        have ef4 := s4 _ _ ef3
        refine ⟨_, _, _, rfl, rfl, ef4, szlt (by omega), _, rfl, ?_⟩
        have t5 : TupLe H4 (upd H4 f (.lst (fv ++ [v]))) := (TupLe.refl _).list ef4
        refine ⟨some (.int p), ?_, ⟨_, upd_same, ?_⟩, Rs.Same.mut (s3.trans s4) hf⟩
        · rw [tk, List.getLastD_concat]
          rfl
        · rw [tk, plParts_snoc]
          exact P2.app (Paired.tl PlR.st ((TupLe.same s4).trans t5) pf3) (P2.one (PlR.st _ _ _ _ t5 hv4))
      · rintro σ H3 ⟨x4, rfl, ⟨fv, ef3, pf3⟩, s3⟩
        rw [List.take_of_length_le (by rw [List.length_map]; exact Nat.le_refl _)] at pf3
        refine ⟨_, rfl, f, fv, rfl, .inl ⟨SqL.of ef3, fun q hq => ?_⟩⟩
        have s4 : Same H3 (upd H3 q (.tup fv)) := Rs.Same.new hq
        refine k _ _ ?_ (s3.trans s4)
        unfold plOf
        rw [if_neg e1]
        exact PlR.node upd_same (Paired.tl PlR.st (TupLe.same s4) pf3)
abbrev N_neighbours : List Str := ["lengths", "ways", "costs", "ends"]
abbrev P_neighbours : List Str := ["lengths", "ways"]
def sp_neighbours (K : PySem.W.Frag) : Sp := fun vs H Q E => match vs with
  | [lv, wv] => ∃ (l : Addr) (ls : List Int) (w : Nat), lv = .ref l ∧ H l = some (.lst (ls.map V.int)) ∧ GoodLens ls ∧ wv = .int (w : Int) ∧ 2 ≤ w ∧ w ≤ 6 ∧
    ∀ t v cl el H', H t = none → H' t = some (.tup [.int (cOf cl 0 (ls.length : Int)), v]) → PlR H' v (plOf el 42 0 (ls.length : Int)) → EndsOk ls.length w el → NbOk (stretchL ls.length) ls w cl el → Same H H' → Q (.ref t) H'
  | _ => False
def t_neighbours (K : PySem.W.Frag) (E : XK) : TS := (tSeq (tDrop (tCall (sp_need_lengths K) [] E (tCons (tVar 0) tNil)))
  (tSeq (tDrop (tCall (sp_need_ways K) [] E (tCons (tVar 1) tNil)))
   (tSeq (tAsg (tCall (sp_neighbours_of K) [] E (tCons (tCB1 (xList K) (tVar 0)) (tCons (tVar 1) tNil))) (gTup K 2 (gCons (gName 2) (gCons (gName 3) gNil))))
    (tRet (tTup (tCons (tDGet2 (tVar 2) (tTup (tConsC (.int 0) (tCons (tCB1 (xLen K) (tVar 0)) tNil))) (tC (.int 0))) (tCons (tCall (sp_plan_of K) [] E (tCons (tVar 3) (tConsC (.int 0) (tCons (tCB1 (xLen K) (tVar 0)) tNil)))) tNil)))))))
theorem pure_neighbours {K : PySem.W.Frag} : ∀ vs H Q E, sp_neighbours K vs H Q E → t_neighbours K E { nx := fun _ H' => Q .non H', rt := Q } (start N_neighbours vs) H := by
  intro vs H Q E hyp
  match vs, hyp with
  | [lv, wv], hyp =>
    obtain ⟨l, ls, w, rfl, hl, g, rfl, w2, w6, k⟩ := hyp
    have g1 := g.pos
    have g4 := g.le
    refine ⟨_, rfl, l, ls, rfl, hl, g, fun H1 s1 => ?_⟩
    refine ⟨_, rfl, _, rfl, by omega, by omega, fun H2 s2 => ?_⟩
    have s02 := s1.trans s2
    refine ⟨_, rfl, l, _, rfl, .inl (SqL.of (s02 _ _ hl)), fun l2 hl2 => ⟨_, rfl, ?_⟩⟩
    have s3 : Same H2 (upd H2 l2 (.lst (ls.map V.int))) := Rs.Same.new hl2
    have e3 : upd H2 l2 (.lst (ls.map V.int)) l2 = some (.lst (ls.map V.int)) := upd_same
    generalize upd H2 l2 (.lst (ls.map V.int)) = H3 at s3 e3 ⊢
    have s03 := s02.trans s3
    refine ⟨l2, ls, w, rfl, e3, g4, rfl, w2, w6, fun t dc de cl ek el H4 ht hdc0 et hdc hde EV N s4 => ?_⟩
    have s04 := s03.trans s4
    have EO : EndsOk ls.length w el := fun b e h => by
      obtain ⟨s, B, _⟩ := N.best b e h
      exact ⟨B.asc, B.two, B.le⟩
    refine ⟨t, _, rfl, SqT.of et, rfl, _, _, rfl, _, _, rfl, rfl, ?_⟩
    have hl4 := s04 _ _ hl
    have eln : (((ls.map V.int).length : Nat) : Int) = (ls.length : Int) := by rw [List.length_map]
    refine ⟨_, rfl, dc, rfl, .inr ⟨_, .inl hdc⟩, _, rfl, lenL hl4 rfl ⟨szle (by show 2 ≤ 100000; decide), fun t1 ht1 => ?_⟩⟩
    rw [eln]
    have s5 : Same H4 (upd H4 t1 (.tup [.int 0, .int (ls.length : Int)])) := Rs.Same.new ht1
    have et1 : upd H4 t1 (.tup [.int 0, .int (ls.length : Int)]) t1 = some (.tup ((kk 0 (ls.length : Int)).map kV)) := upd_same
    generalize upd H4 t1 (.tup [.int 0, .int (ls.length : Int)]) = H5 at s5 et1 ⊢
    refine ⟨_, DGet.t (k := kk 0 (ls.length : Int)) (s5 _ _ hdc) et1, _, rfl, _, rfl, lenL (s5 _ _ hl4) rfl ?_⟩
    rw [eln, enc_getD]
    refine ⟨de, ek, el, ls.length, w, 0, (ls.length : Int), rfl, s5 _ _ hde, EV.tl (TL.same s5), EO, by omega, g4, rfl, rfl, Int.le_refl _, by omega, Int.le_refl _, by omega, fun v H6 hv s6 => ⟨szle (by show 2 ≤ 100000; decide), fun t2 ht2 => ?_⟩⟩
    have s7 : Same H6 (upd H6 t2 (.tup [.int (cOf cl 0 (ls.length : Int)), v])) := Rs.Same.new ht2
    have s06 := (s04.trans s5).trans s6
    exact k t2 v cl el _ (s06.free ht2) upd_same (PlR.st _ _ _ _ (TupLe.same s7) hv) EO N (s06.trans s7)
end Rs

namespace Rs
open PySem PySem.Spec PyProof.Rows L2
abbrev N_law_by_plan : List Str := ["_law_kinds_here", "_law_order_here", "_law_runs", "_law_plan", "_law_part"]
abbrev P_law_by_plan : List Str := ["_law_kinds_here", "_law_order_here", "_law_runs", "_law_plan"]
def rowsOf (rs : List (List Pr)) (ids : List Int) : List Pr := (ids.map fun r => rs.getD r.toNat []).flatten
/-- a run in a list that is none of S -/
def RunE (S : List Addr) : Rel (List Pr) := fun H v xs => ∃ l, v = .ref l ∧ l ∉ S ∧ Lst PairAt H l xs
theorem RunE.same {S : List Addr} {H H' : Hp} {v : V} {xs : List Pr} (h : RunE S H v xs) (s : Same H H') : RunE S H' v xs := let ⟨l, a, b, c⟩ := h; ⟨l, a, b, c.same PairAt.st s⟩
theorem RunE.put {S : List Addr} {D : Addr} {H : Hp} {v : V} {xs : List Pr} {ys zs : List V} (h : RunE S H v xs) (e : H D = some (.lst ys)) (m : D ∈ S) : RunE S (upd H D (.lst zs)) v xs := let ⟨l, a, b, c⟩ := h; ⟨l, a, b, c.keep PairAt.st ((TupLe.refl H).list e) fun o q => up q fun z => b (by rw [z]; exact m)⟩
theorem RunE.more {S : List Addr} {D : Addr} {H : Hp} {v : V} {xs : List Pr} (h : RunE S H v xs) (n : H D = none) : RunE (D :: S) H v xs := by
  obtain ⟨l, a, b, c⟩ := h
  refine ⟨l, a, fun z => ?_, c⟩
  obtain ⟨_, e, _⟩ := c
  rcases List.mem_cons.mp z with z | z
  · rw [z, n] at e
    cases e
  · exact b z
theorem runsE_same {S : List Addr} {H H' : Hp} {l : Addr} {rs : List (List Pr)} (s : Same H H') (h : Lst (RunE S) H l rs) : Lst (RunE S) H' l rs := let ⟨vs, a, b⟩ := h; ⟨vs, s _ _ a, P2.mono (fun _ _ q => q.same s) b⟩
theorem runsE_more {S : List Addr} {D : Addr} {H : Hp} {l : Addr} {rs : List (List Pr)} (n : H D = none) (h : Lst (RunE S) H l rs) : Lst (RunE (D :: S)) H l rs := let ⟨vs, a, b⟩ := h; ⟨vs, a, P2.mono (fun _ _ q => q.more n) b⟩
def spr_law_by_plan (K : PySem.W.Frag) (d : Nat) : Sp := fun vs H Q E => match vs with
  | [kv, ov, rv, pv] => ∃ (ks : List Str) (o : Ord) (rs : List (List Pr)) (lo lr : Addr) (pl : Pl) (S : List Addr), (∀ x ∈ S, ∃ u, H x = some u) ∧ KindsAt H kv ks ∧ GoodKinds ks ∧ ov = .ref lo ∧ Lst TurnAt H lo o ∧ GoodOrd ks o ∧ o.length ≤ 1000 ∧ rv = .ref lr ∧ Lst (RunE S) H lr rs ∧ (∀ r ∈ rs, isRunB ks o r = true) ∧ (rs.flatten.map (·.1)).Nodup ∧ rs.flatten.length ≤ 1000 ∧
    PlR H pv pl ∧ pl.depth < d ∧ pl.fits 40 = true ∧ pl.runs.Nodup ∧ (∀ r ∈ pl.runs, 0 ≤ r ∧ r < rs.length) ∧
    ∀ l H' ys, l ∉ S → Lst PairAt H' l ys → Up o ys → ys.Perm (rowsOf rs pl.runs) → Same H H' → Q (.ref l) H'
  | _ => False
abbrev sp_law_by_plan (K : PySem.W.Frag) : Sp := spr_law_by_plan K 42
theorem no_law_by_plan (K : PySem.W.Frag) : ∀ vs H Q E, ¬ spr_law_by_plan K 0 vs H Q E := fun vs H Q E h => by
  unfold spr_law_by_plan at h
  match vs, h with
  | [_, _, _, _], ⟨_, _, _, _, _, _, _, _, _, _, _, _, _, _, _, _, _, _, _, _, h1, _⟩ => omega
theorem len_law_by_plan (K : PySem.W.Frag) : ∀ d vs H Q E, spr_law_by_plan K d vs H Q E → vs.length = 4 := fun d vs H Q E h => by
  unfold spr_law_by_plan at h
  match vs, h with
  | [_, _, _, _], _ => rfl
def t_law_by_plan (K : PySem.W.Frag) (sp : Sp) (E : XK) : TS := (tSeq (tIfS (tNot (tB (tIsi K "tuple" (tVar 3)))) (tRet (tOp (rIxL K) (tVar 2) (tVar 3))) tNext)
  (tRet (tOpC (rIxT K) (tCall (sp_merged K) [] E (tCons (tVar 0) (tCons (tVar 1) (tCons (tLc (iTup K (tVar 3)) (gName 4) tYes (tCall sp [] E0 (tCons (tVar 0) (tCons (tVar 1) (tCons (tVar 2) (tCons (tVar 4) tNil))))) [4]) tNil)))) (.int 0))))
theorem take_out : ∀ {ids l : List Int}, ids.Nodup → (∀ x ∈ ids, x ∈ l) → ∃ rest, l.Perm (ids ++ rest)
  | [], l, _, _ => ⟨l, .refl _⟩
  | a :: ids, l, nd, h => by
    obtain ⟨n1, n2⟩ := List.nodup_cons.mp nd
    obtain ⟨rest, p⟩ := take_out (ids := ids) (l := l.erase a) n2 fun x hx => (List.mem_erase_of_ne (fun e => n1 (by rw [← e]; exact hx))).mpr (h x (List.mem_cons_of_mem _ hx))
    exact ⟨rest, (List.perm_cons_erase (h a (List.mem_cons_self ..))).trans (p.cons a)⟩
theorem rowsOf_all (rs : List (List Pr)) : rowsOf rs (rng 0 rs.length) = rs.flatten := by
  unfold rowsOf rng
  rw [List.map_map]
  congr 1
  refine List.ext_getElem? fun i => ?_
  rw [List.getElem?_map]
  by_cases h : i < rs.length
  · rw [List.getElem?_range (by omega), List.getElem?_eq_getElem h]
    show some (rs.getD (0 + (i : Int)).toNat []) = _
    have : (0 + (i : Int)).toNat = i := by omega
    rw [this, getD_lt h]
  · rw [List.getElem?_eq_none (by rw [List.length_range]; omega), List.getElem?_eq_none (by omega)]
    rfl
theorem rowsOf_app (rs : List (List Pr)) (a b : List Int) : rowsOf rs (a ++ b) = rowsOf rs a ++ rowsOf rs b := by
  unfold rowsOf
  rw [List.map_append, List.flatten_append]
theorem rowsOf_perm {rs : List (List Pr)} {a b : List Int} (p : a.Perm b) : (rowsOf rs a).Perm (rowsOf rs b) := (p.map _).flatten
theorem rowsOf_sub {rs : List (List Pr)} {ids : List Int} (nd : ids.Nodup) (h : ∀ r ∈ ids, 0 ≤ r ∧ r < rs.length) : ∃ rest, rs.flatten.Perm (rowsOf rs ids ++ rest) := by
  obtain ⟨rest, p⟩ := take_out (l := rng 0 rs.length) nd fun x hx => by
    have := h x hx
    exact List.mem_map.mpr ⟨x.toNat, List.mem_range.mpr (by omega), by omega⟩
  refine ⟨rowsOf rs rest, ?_⟩
  rw [← rowsOf_app, ← rowsOf_all]
  exact rowsOf_perm p
theorem flatPl_perm {rs : List (List Pr)} : ∀ {yss : List (List Pr)} {ps : List Pl}, Paired (fun y (p : Pl) => y.Perm (rowsOf rs p.runs)) yss ps → yss.flatten.Perm (rowsOf rs (Pl.runsL ps))
  | _, _, .nil => .refl _
  | _, _, .cons a b => by
    rw [List.flatten_cons, Pl.runsL, rowsOf_app]
    exact List.Perm.append a (flatPl_perm b)
theorem pure_law_by_plan {K : PySem.W.Frag} (d : Nat) : ∀ vs H Q E, spr_law_by_plan K (d + 1) vs H Q E → t_law_by_plan K (spr_law_by_plan K d) E { nx := fun _ H' => Q .non H', rt := Q } (start N_law_by_plan vs) H := by
  intro vs H Q E hyp
  unfold spr_law_by_plan at hyp
  match vs, hyp with
  | [kv, ov, rv, pv], hyp =>
    obtain ⟨ks, o, rs, lo, lr, pl, S, hS, hk, gk, rfl, Lo, go, hol, rfl, Lr, good, nd, hlen, hp, hd, hf, pnd, pin, k⟩ := hyp
    have hcol := go.col
    cases pl with
    | leaf n =>
      have e := PlR.unleaf hp
      subst e
      obtain ⟨h0, h1⟩ := pin n (by simp [Pl.runs])
      obtain ⟨xv, ex, px⟩ := Lr
      have hi : rs[n.toNat]? = some (rs.getD n.toNat []) := by rw [List.getD_eq_getElem?_getD, List.getElem?_eq_getElem (by omega)]; rfl
      obtain ⟨v, hv, l, rfl, nS, Lv⟩ := P2.get' px hi
      have en : n = ((n.toNat : Nat) : Int) := by omega
      refine ⟨_, rfl, isi_go (t := "int") (b := false) (.base (.int n)) (by decide +kernel) ⟨_, rfl, ?_⟩⟩
      refine ⟨_, rfl, _, rfl, ixL ex en hv (k l H _ nS Lv (isRunB_up hcol (good _ (List.mem_of_getElem? hi))) ?_ (Same.refl H))⟩
      show (rs.getD n.toNat []).Perm ([n].map fun r => rs.getD r.toNat []).flatten
      simp
    | node ps =>
      obtain ⟨a, tv, rfl, et, pt⟩ := PlR.unnode hp
      have lt := pt.length
      rw [Pl.fits] at hf
      simp only [Bool.and_eq_true, decide_eq_true_eq] at hf
      obtain ⟨⟨f2, f40⟩, fl⟩ := hf
      rw [Pl.fitsL_all, List.all_eq_true] at fl
      rw [Pl.depth] at hd
      refine ⟨_, rfl, isi_go (t := "tuple") (b := true) (tyT (SqT.of et)) (by decide +kernel) ⟨_, rfl, ?_⟩⟩
      refine ⟨_, rfl, _, rfl, _, rfl, a, rfl, ⟨_, SqT.of et⟩, fun D hD => ?_⟩
      have sub : ∀ p ∈ ps, p.runs.Nodup ∧ ∀ r ∈ p.runs, 0 ≤ r ∧ r < rs.length := fun p hp => by
        have : p.runs.Sublist (Pl.runsL ps) := by
          rw [Pl.runsL_map]
          exact List.sublist_flatten_of_mem (List.mem_map_of_mem hp)
        exact ⟨pnd.sublist this, fun r hr => pin r (this.subset hr)⟩
      refine lc_tup (K := K) (a := a) (xs := tv) (fun j H' => ∃ acc yss, H' D = some (.lst acc) ∧ Paired (RunE (D :: S) H') acc yss ∧ Paired (fun y (p : Pl) => Up o y ∧ y.Perm (rowsOf rs p.runs)) yss (ps.take j) ∧ Same H H') ⟨[], [], upd_same, .nil, .nil, Rs.Same.new hD⟩ ?_ ?_ ?_
      · rintro j H' _ ⟨_, _, _, _, _, s⟩
        exact SqT.of (s _ _ et)
      · rintro j v H' hj ⟨acc, yss, eD, pa, py, s⟩
        obtain ⟨p, hp, hpv⟩ := P2.get pt hj
        have hpm := List.mem_of_getElem? hp
        have lp := pa.length
        have lpy := py.length
        rw [List.length_take] at lpy
        obtain ⟨sn, si⟩ := sub p hpm
        have dl := Pl.depthL_le hpm
        refine ⟨rfl, lc_yes ⟨_, rfl, _, rfl, _, rfl, _, rfl, ?_⟩⟩
        refine ⟨ks, o, rs, lo, lr, p, D :: S, fun x hx => ?_, hk.mono (TupLe.same s), gk, rfl, Lo.same TurnAt.st s, go, hol, rfl, runsE_same s (runsE_more hD Lr), good, nd, hlen, PlR.st _ _ _ _ (TupLe.same s) hpv, by omega, fl p hpm, sn, si, fun l H4 ys nlD L u pm s4 => ?_⟩
        · rcases List.mem_cons.mp hx with z | z
          · rw [z]
            exact ⟨_, eD⟩
          · obtain ⟨u, hu⟩ := hS x z
            exact ⟨u, s _ _ hu⟩
        have eD4 := s4 _ _ eD
        refine ⟨acc, eD4, szlt (by omega), acc ++ [.ref l], yss ++ [ys], upd_same, ?_, ?_, Rs.Same.mut (s.trans s4) hD⟩
        · exact P2.app (P2.mono (fun _ _ q => (q.same s4).put eD4 (List.mem_cons_self ..)) pa) (P2.one (RunE.put (S := D :: S) ⟨l, rfl, nlD, L⟩ eD4 (List.mem_cons_self ..)))
        · rw [List.take_succ, hp]
          exact P2.app py (P2.one ⟨u, pm⟩)
      · rintro H1 ⟨acc, yss, eD, pa, py, s⟩
        rw [List.take_of_length_le (by omega)] at py
        have ly := py.length
        have pf := flatPl_perm (P2.mono (fun _ _ q => q.2) py)
        obtain ⟨rest, pr⟩ := rowsOf_sub pnd pin
        have nd2 : (yss.flatten.map (·.1)).Nodup := by
          have q := (pr.map (·.1)).nodup_iff.mp nd
          rw [List.map_append] at q
          exact (pf.map (·.1)).nodup_iff.mpr (List.nodup_append.mp q).1
        have len2 : yss.flatten.length ≤ 1000 := by
          have q1 := pr.length_eq
          have q2 := pf.length_eq
          rw [List.length_append] at q1
          show yss.flatten.length ≤ 1000
          have q2 : yss.flatten.length = (rowsOf rs (Pl.node ps).runs).length := q2
          omega
        have mem2 : ∀ q ∈ yss.flatten, q ∈ rs.flatten := fun q hq => pr.mem_iff.mpr (List.mem_append_left _ (pf.mem_iff.mp hq))
        have good2 : ∀ y ∈ yss, isRunB ks o y = true := fun y hy => by
          obtain ⟨p, hp, u, pm⟩ := paired_mem py hy
          refine isRunB_of u fun q hq => ?_
          have := mem2 q (List.mem_flatten.mpr ⟨y, hy, hq⟩)
          obtain ⟨r, hr, hqr⟩ := List.mem_flatten.mp this
          have g := good r hr
          unfold isRunB at g
          simp only [Bool.and_eq_true, List.all_eq_true, decide_eq_true_eq] at g
          exact g.1 q hqr
        have LD : Lst RunV H1 D yss := ⟨acc, eD, P2.mono (fun _ _ ⟨l, a, _, c⟩ => ⟨l, a, c⟩) pa⟩
        refine ⟨ks, o, yss, lo, D, hk.mono (TupLe.same s), gk, rfl, Lo.same TurnAt.st s, go, hol, rfl, LD, by omega, good2, nd2, len2, fun t f H2 e looks ys ht hf et2 Lf u pm _ _ _ _ s2 => ?_⟩
        exact ixT ⟨t, rfl, et2⟩ (j := 0) rfl rfl (k f H2 ys (fun z => by obtain ⟨w, hw⟩ := hS f z; rw [s _ _ hw] at hf; cases hf) Lf u (pm.trans pf) (s.trans s2))
end Rs

namespace Rs
open PySem PySem.Spec PyProof.Rows L2
/-! ### the cheapest plan names each run once -/
mutual
theorem Pl.fits_mono {w v : Nat} (h : w ≤ v) : ∀ p : Pl, p.fits w = true → p.fits v = true
  | .leaf _, _ => rfl
  | .node ps, q => by
    rw [Pl.fits] at q ⊢
    simp only [Bool.and_eq_true, decide_eq_true_eq] at q ⊢
    exact ⟨⟨q.1.1, by omega⟩, Pl.fitsL_mono h ps q.2⟩
theorem Pl.fitsL_mono {w v : Nat} (h : w ≤ v) : ∀ ps : List Pl, Pl.fitsL w ps = true → Pl.fitsL v ps = true
  | [], _ => rfl
  | p :: ps, q => by
    rw [Pl.fitsL] at q ⊢
    simp only [Bool.and_eq_true] at q ⊢
    exact ⟨Pl.fits_mono h p q.1, Pl.fitsL_mono h ps q.2⟩
end
theorem look_old {plans : List (Int × Pl)} {q : Int × Pl} {x : Int} (h : ∃ q ∈ plans, q.1 = x) : lookP (plans ++ [q]) x = lookP plans x := by
  obtain ⟨r, e, _, _⟩ := find_some h
  unfold lookP
  rw [List.find?_append, e]
  rfl
theorem look_new {plans : List (Int × Pl)} {p : Pl} {x : Int} (h : ∀ q ∈ plans, q.1 ≠ x) : lookP (plans ++ [(x, p)]) x = p := by
  unfold lookP
  rw [List.find?_append, find_none h]
  simp
theorem filter_perm {α : Type} (p : α → Bool) : ∀ xs : List α, xs.Perm (xs.filter p ++ xs.filter fun x => !p x)
  | [] => .refl _
  | x :: xs => by
    have ih := filter_perm p xs
    rw [List.filter_cons, List.filter_cons]
    cases p x
    · simp only [Bool.false_eq_true, if_false, Bool.not_false, if_true]
      exact (ih.cons x).trans List.perm_middle.symm
    · simpa using ih
theorem cgo_ok {n w : Nat} (hw : 2 ≤ w) {T : List Int} : ∀ (m : Nat) (rows : List (Int × Int)) (plans : List (Int × Pl)) (found : Int), CInv n rows plans → 1 ≤ rows.length → rows.length ≤ m + 1 → (∀ r ∈ rows, (lookP plans r.2).fits w = true) → ((rows.map fun r => (lookP plans r.2).runs).flatten).Perm T →
    (cgo n w m rows plans found).2.fits w = true ∧ ((cgo n w m rows plans found).2.runs).Perm T := by
  intro m
  induction m with
  | zero =>
    intro rows plans found I h1 h2 hf hp
    obtain ⟨r, rfl⟩ := List.length_eq_one_iff.mp (by omega : rows.length = 1)
    refine ⟨hf r (List.mem_singleton.mpr rfl), ?_⟩
    show ((lookP plans r.2).runs).Perm T
    simpa using hp
  | succ m ih =>
    intro rows plans found I h1 h2 hf hp
    unfold cgo
    by_cases c : 1 < rows.length
    · rw [if_pos c]
      have hb := hm_le (left := rows.length) (by omega) hw
      have rl := I.rows_len (w := w) (by omega) hw
      have lo : ∀ r ∈ rows, lookP (cPlans n w rows plans) r.2 = lookP plans r.2 := fun r hr => look_old (I.names r hr)
      have ln : lookP (cPlans n w rows plans) ((n : Int) + plans.length) = .node ((leastN rows w).map (lookP plans)) := look_new fun q hq e => by
        have := I.lt q hq
        omega
      have lr := least_rows (w := w) I.nd
      have eR : (leastN rows w).map (lookP plans) = ((srtL rows).take (hm rows.length w)).map fun r => lookP plans r.2 := by
        unfold leastN
        rw [List.map_map]
        rfl
      refine ih _ _ _ I.step (by omega) (by omega) (fun r hr => ?_) ?_
      · unfold cRows at hr
        rcases List.mem_append.mp hr with z | z
        · have hm := (List.mem_filter.mp z).1
          rw [lo r hm]
          exact hf r hm
        · rw [List.mem_singleton] at z
          rw [z, ln, Pl.fits]
          simp only [Bool.and_eq_true, decide_eq_true_eq]
          refine ⟨⟨by rw [List.length_map, least_len (by omega) hw]; exact hb.1, by rw [List.length_map, least_len (by omega) hw]; exact hb.2.2⟩, ?_⟩
          rw [Pl.fitsL_all, List.all_eq_true]
          intro p hp
          obtain ⟨x, hx, rfl⟩ := List.mem_map.mp hp
          obtain ⟨r, hr, rfl⟩ := least_sub x hx
          exact hf r hr
      · unfold cRows
        rw [List.map_append, List.flatten_append, List.map_singleton, List.flatten_singleton, ln]
        have e1 : ((rows.filter fun r => decide (r.2 ∉ leastN rows w)).map fun r => (lookP (cPlans n w rows plans) r.2).runs) = (rows.filter fun r => !decide (r.2 ∈ leastN rows w)).map fun r => (lookP plans r.2).runs := by
          have : (rows.filter fun r => decide (r.2 ∉ leastN rows w)) = rows.filter fun r => !decide (r.2 ∈ leastN rows w) := by
            congr 1
            funext r
            exact not_mem_dec
          rw [this]
          exact List.map_congr_left fun r hr => by rw [lo r (List.mem_filter.mp hr).1]
        have e2 : (Pl.node ((leastN rows w).map (lookP plans))).runs = (((srtL rows).take (hm rows.length w)).map fun r => (lookP plans r.2).runs).flatten := by
          rw [Pl.runs, Pl.runsL_map, eR, List.map_map]
          rfl
        rw [e1, e2]
        refine List.Perm.trans ?_ hp
        have fp := filter_perm (fun r : Int × Int => decide (r.2 ∈ leastN rows w)) rows
        have p1 := (fp.map fun r => (lookP plans r.2).runs).flatten
        rw [List.map_append, List.flatten_append] at p1
        refine List.Perm.trans ?_ p1.symm
        refine List.perm_append_comm.trans ?_
        exact List.Perm.append_right _ ((lr.symm.map fun r => (lookP plans r.2).runs).flatten)
    · rw [if_neg c]
      obtain ⟨r, rfl⟩ := List.length_eq_one_iff.mp (by omega : rows.length = 1)
      refine ⟨hf r (List.mem_singleton.mpr rfl), ?_⟩
      show ((lookP plans r.2).runs).Perm T
      simpa using hp
theorem look0 {n : Nat} {i : Nat} (h : i < n) : lookP (plans0 n) (i : Int) = .leaf (i : Int) := by
  have : ∃ q ∈ plans0 n, q.1 = (i : Int) := ⟨((i : Int), .leaf i), List.mem_map.mpr ⟨i, List.mem_range.mpr h, rfl⟩, rfl⟩
  obtain ⟨q, e, hq, e2⟩ := find_some this
  unfold lookP
  rw [e]
  obtain ⟨j, _, rfl⟩ := List.mem_map.mp hq
  have e2 : (j : Int) = (i : Int) := e2
  show Pl.leaf (j : Int) = _
  rw [e2]
theorem CInv.start (ls : List Int) : CInv ls.length (rows0 ls) (plans0 ls.length) := by
  refine ⟨fun r hr => ?_, fun q hq => ?_, ?_⟩
  · obtain ⟨i, hi, rfl⟩ := List.mem_map.mp hr
    exact ⟨_, List.mem_map_of_mem (f := fun (i : Nat) => ((i : Int), Pl.leaf (i : Int))) hi, rfl⟩
  · obtain ⟨i, hi, rfl⟩ := List.mem_map.mp hq
    have := List.mem_range.mp hi
    unfold plans0
    rw [List.length_map, List.length_range]
    show (i : Int) < _
    omega
  · unfold rows0
    rw [List.map_map]
    exact nodup_cast (l := List.range ls.length) List.nodup_range
theorem cheapL_ok {ls : List Int} {w : Nat} (h1 : 1 ≤ ls.length) (hw : 2 ≤ w) : (cheapL ls w).2.fits w = true ∧ ((cheapL ls w).2.runs).Perm (rng 0 ls.length) := by
  have e : ∀ r ∈ rows0 ls, ∃ i : Nat, r.2 = i ∧ lookP (plans0 ls.length) r.2 = .leaf (i : Int) := fun r hr => by
    obtain ⟨i, hi, rfl⟩ := List.mem_map.mp hr
    exact ⟨i, rfl, look0 (List.mem_range.mp hi)⟩
  refine cgo_ok hw ls.length (rows0 ls) (plans0 ls.length) 0 (CInv.start ls) (by simp [rows0]; omega) (by simp [rows0]) (fun r hr => ?_) ?_
  · obtain ⟨i, _, z⟩ := e r hr
    rw [z]
    rfl
  · have : ((rows0 ls).map fun r => (lookP (plans0 ls.length) r.2).runs).flatten = rng 0 ls.length := by
      unfold rows0 rng
      rw [List.map_map]
      have : (List.range ls.length).map ((fun r : Int × Int => (lookP (plans0 ls.length) r.2).runs) ∘ fun (i : Nat) => (ls.getD i 0, (i : Int))) = (List.range ls.length).map fun (i : Nat) => [0 + (i : Int)] := List.map_congr_left fun i hi => by
        show (lookP (plans0 ls.length) (i : Int)).runs = _
        rw [look0 (List.mem_range.mp hi), Int.zero_add]
        rfl
      rw [this]
      have e2 : ((ls.length : Int) - 0).toNat = ls.length := by omega
      rw [e2]
      induction List.range ls.length with
      | nil => rfl
      | cons a l ih => rw [List.map_cons, List.flatten_cons, ih]; rfl
    rw [this]
end Rs

namespace Rs
open PySem PySem.Spec PyProof.Rows L2
section
variable {α β : Type} {R : Rel α} {S : Rel β} {H1 H' H4 : Hp} {D : Addr} {dn : List β} {y : V} {b : β}
/-- over a tuple -/
theorem lcm_tup {K : PySem.W.Frag} {a : Addr} {vs : List V} {xs : List α} {g : TG} {tt : TT} {te : TE} {ws : List Nat} {σ : L2.St} {Qd : Hp → Prop} (f : α → Option β) (st : Stable S) (ha : H1 a = some (.tup vs)) (p : Paired (R H1) vs xs) (hD : H1 D = none)
    (turn : ∀ (j : Nat) (v : V) (x : α) (H' : Hp), xs[j]? = some x → vs[j]? = some v → R H1 v x → Same H1 H' → (∀ H4, Same H' H4 → f x = none → PvL S H1 D ((xs.take (j + 1)).filterMap f) H4) → (∀ H4 y b, Same H' H4 → f x = some b → S H4 y b → ∃ acc, H4 D = some (.lst acc) ∧ acc.length < sizeLine ∧ PvL S H1 D ((xs.take (j + 1)).filterMap f) (upd H4 D (.lst (acc ++ [y])))) →
      g v (wipe σ ws) H' fun σ2 H2 => wipe σ2 ws = wipe σ ws ∧ tt σ2 H2 fun b H3 => if b = true then te σ2 H3 fun y H4 => ∃ acc, H4 D = some (.lst acc) ∧ acc.length < sizeLine ∧ PvL S H1 D ((xs.take (j + 1)).filterMap f) (upd H4 D (.lst (acc ++ [y]))) else PvL S H1 D ((xs.take (j + 1)).filterMap f) H3)
    (hl : xs.length < 100000) (done : ∀ H', Lst S H' D (xs.filterMap f) → Same H1 H' → Qd H') :
    ∃ W : Nat → Nat → Hp → Prop, (∃ m, W 0 m (upd H1 D (.lst []))) ∧ ∀ i m H, W i m H →
      ((Itt K a).stop i H ∧ Qd H) ∨ ((Itt K a).go i H ∧ ∃ Nx : Hp → Prop, (∀ H', Nx H' → ∃ m', m' < m ∧ W (i + 1) m' H') ∧ ∀ x H', (Itt K a).yld i H x H' → g x (wipe σ ws) H' fun σ2 H2 => wipe σ2 ws = wipe σ ws ∧ tt σ2 H2 fun b H3 =>
        if b = true then te σ2 H3 fun y H4 => ∃ acc, H4 D = some (.lst acc) ∧ acc.length < sizeLine ∧ Nx (upd H4 D (.lst (acc ++ [y]))) else Nx H3) := by
  have lp := p.length
  refine lc_tup (K := K) (a := a) (xs := vs) (fun j H' => PvL S H1 D ((xs.take j).filterMap f) H') (lcStart hD) ?_ ?_ ?_
  · rintro j H' _ ⟨_, s⟩
    exact SqT.of (s _ _ ha)
  · rintro j v H' hj P
    obtain ⟨x, hx, r⟩ := P2.get p hj
    have hb : ((xs.take j).filterMap f).length < 100000 := by
      have := List.length_filterMap_le f (xs.take j)
      rw [List.length_take] at this
      omega
    refine turn j v x H' hx hj r P.2 (fun H4 s hf => ?_) (fun H4 y b s hf hy => ?_)
    · rw [take_fm hx, hf, Option.toList_none, List.append_nil]
      exact lcSkip st P s
    · rw [take_fm hx, hf]
      exact lcPut st hD P s hy hb
  · rintro H' ⟨L, s⟩
    rw [List.take_of_length_le (by omega)] at L
    exact done H' L s
end
def StrAt : Rel Str := fun _ v x => v = .str x
theorem StrAt.st : Stable StrAt := fun _ _ _ _ _ h => h
theorem strs_paired {H : Hp} : ∀ ns : List Str, Paired (StrAt H) (ns.map V.str) ns
  | [] => .nil
  | n :: ns => .cons rfl (strs_paired ns)
theorem paired_strs {H : Hp} : ∀ {vs : List V} {ns : List Str}, Paired (StrAt H) vs ns → vs = ns.map V.str
  | _, _, .nil => rfl
  | _, _, .cons h t => by rw [List.map_cons, ← paired_strs t]; congr 1
theorem Lst.strs {H : Hp} {l : Addr} {ns : List Str} : Lst StrAt H l ns ↔ H l = some (.lst (ns.map V.str)) := ⟨fun ⟨vs, e, p⟩ => by rw [← paired_strs p]; exact e, fun e => ⟨_, e, strs_paired ns⟩⟩
open _root_.TL
/-! ### plans as words, as texts -/
def numS (n : Int) : Str := Str.ofString (toString n)
mutual
def Pl.words : Pl → List Str
  | .leaf n => [numS n]
  | .node ps => ("(" : Str) :: (Pl.wordsL ps ++ [(")" : Str)])
def Pl.wordsL : List Pl → List Str
  | [] => []
  | p :: ps => p.words ++ Pl.wordsL ps
end
mutual
def Pl.text : Pl → Str
  | .leaf n => numS n
  | .node ps => (("( " : Str) ++ Txt.join (" " : Str) (Pl.textL ps)) ++ (" )" : Str)
def Pl.textL : List Pl → List Str
  | [] => []
  | p :: ps => p.text :: Pl.textL ps
end
theorem Pl.textL_map (ps : List Pl) : Pl.textL ps = ps.map Pl.text := by
  induction ps with
  | nil => rfl
  | cons p ps ih => rw [Pl.textL, ih, List.map_cons]
theorem Pl.wordsL_map (ps : List Pl) : Pl.wordsL ps = (ps.map Pl.words).flatten := by
  induction ps with
  | nil => rfl
  | cons p ps ih => rw [Pl.wordsL, ih, List.map_cons, List.flatten_cons]
theorem Pl.wordsL_app (a b : List Pl) : Pl.wordsL (a ++ b) = Pl.wordsL a ++ Pl.wordsL b := by
  rw [Pl.wordsL_map, Pl.wordsL_map, Pl.wordsL_map, List.map_append, List.flatten_append]
theorem joinL_app {s : List Nat} : ∀ {a b : List (List Nat)}, a ≠ [] → b ≠ [] → joinL s (a ++ b) = joinL s a ++ (s ++ joinL s b)
  | [], b, h, _ => absurd rfl h
  | [x], [], _, h => absurd rfl h
  | [x], y :: b, _, _ => rfl
  | x :: z :: a, b, _, h => by
    have ih := joinL_app (s := s) (a := z :: a) (b := b) (by simp) h
    show x ++ (s ++ joinL s (z :: a ++ b)) = (x ++ (s ++ joinL s (z :: a))) ++ (s ++ joinL s b)
    rw [ih]
    simp [List.append_assoc]
theorem joinL_flat {s : List Nat} : ∀ {xss : List (List (List Nat))}, (∀ xs ∈ xss, xs ≠ []) → joinL s xss.flatten = joinL s (xss.map (joinL s))
  | [], _ => rfl
  | [xs], h => by simp [joinL]
  | xs :: ys :: r, h => by
    have ih := joinL_flat (s := s) (xss := ys :: r) fun z hz => h z (List.mem_cons_of_mem _ hz)
    have n1 := h xs (List.mem_cons_self ..)
    have n2 : (ys :: r).flatten ≠ [] := by
      have := h ys (by simp)
      intro z
      rw [List.flatten_cons] at z
      exact this (List.append_eq_nil_iff.mp z).1
    rw [List.flatten_cons, joinL_app n1 n2, ih]
    rfl
theorem Pl.words_ne (p : Pl) : p.words ≠ [] := by
  cases p <;> simp [Pl.words]
theorem tl_join' (y : Str) (ps : List Str) : tl (Txt.join y ps) = joinL (tl y) (ps.map tl) := by rw [join_eq, tl_join]
mutual
theorem Pl.join_words {w : Nat} : ∀ (p : Pl), p.fits w = true → joinL (tl (" " : Str)) (p.words.map tl) = tl p.text
  | .leaf n, _ => rfl
  | .node ps, h => by
    rw [Pl.fits] at h
    simp only [Bool.and_eq_true, decide_eq_true_eq] at h
    have ih := Pl.join_wordsL ps h.2
    have nn : ps ≠ [] := by intro z; rw [z] at h; simp at h
    have n1 : (Pl.wordsL ps).map tl ≠ [] := by
      intro z
      rw [List.map_eq_nil_iff] at z
      cases ps with
      | nil => exact nn rfl
      | cons p ps =>
        rw [Pl.wordsL] at z
        exact Pl.words_ne p (List.append_eq_nil_iff.mp z).1
    show joinL (tl (" " : Str)) (([tl ("(" : Str)] : List (List Nat)) ++ (Pl.wordsL ps ++ [(")" : Str)]).map tl) = tl ((("( " : Str) ++ Txt.join (" " : Str) (Pl.textL ps)) ++ (" )" : Str))
    rw [List.map_append, joinL_app (by simp) (by simp), joinL_app n1 (by simp), Pl.wordsL_map, List.map_flatten, joinL_flat, tl_append, tl_append, tl_join']
    · have e : (((ps.map Pl.words).map (List.map tl)).map (joinL (tl (" " : Str)))) = (Pl.textL ps).map tl := by
        rw [List.map_map, List.map_map, Pl.textL_map, List.map_map]
        exact List.map_congr_left fun p hp => ih p hp
      rw [e]
      have e1 : tl ("( " : Str) = tl ("(" : Str) ++ tl (" " : Str) := by decide +kernel
      have e2 : tl (" )" : Str) = tl (" " : Str) ++ tl (")" : Str) := by decide +kernel
      rw [e1, e2]
      simp [joinL, List.append_assoc]
    · intro xs hxs
      obtain ⟨ys, hys, rfl⟩ := List.mem_map.mp hxs
      obtain ⟨p, _, rfl⟩ := List.mem_map.mp hys
      intro z
      exact Pl.words_ne p (List.map_eq_nil_iff.mp z)
theorem Pl.join_wordsL {w : Nat} : ∀ (ps : List Pl), Pl.fitsL w ps = true → ∀ p ∈ ps, joinL (tl (" " : Str)) (p.words.map tl) = tl p.text
  | [], _, p, hp => by simp at hp
  | q :: ps, h, p, hp => by
    rw [Pl.fitsL] at h
    simp only [Bool.and_eq_true] at h
    rcases List.mem_cons.mp hp with e | e
    · rw [e]
      exact Pl.join_words q h.1
    · exact Pl.join_wordsL ps h.2 p e
end
theorem Pl.join_eq {w : Nat} {p : Pl} (h : p.fits w = true) : Txt.join (" " : Str) p.words = p.text := by
  refine str_ext ?_
  show tl _ = tl _
  rw [tl_join', Pl.join_words p h]
/-! ### small numbers as texts -/
def numOk (n : Nat) : Bool := decide ((numS n).length ≤ 2) && decide (1 ≤ (numS n).length) && ((tl (numS n)).all fun c => decide (48 ≤ c) && decide (c ≤ 57))
theorem num_ok : ∀ n : Nat, n < 100 → numOk n = true := by decide +kernel
theorem num_facts {n : Nat} (h : n < 100) : (numS n).length ≤ 2 ∧ 1 ≤ (numS n).length ∧ ∀ c ∈ tl (numS n), 48 ≤ c ∧ c ≤ 57 := by
  have := num_ok n h
  unfold numOk at this
  simp only [Bool.and_eq_true, decide_eq_true_eq, List.all_eq_true] at this
  exact ⟨this.1.1, this.1.2, this.2⟩
theorem str_len (x : Str) : x.length = (tl x).length := by simp [Str.length, tl]
theorem joinL_len {s : List Nat} : ∀ xs : List (List Nat), (joinL s xs).length ≤ (xs.map List.length).sum + xs.length * s.length
  | [] => by simp [joinL]
  | [x] => by simp [joinL]
  | x :: y :: r => by
    have ih := joinL_len (s := s) (y :: r)
    show (x ++ (s ++ joinL s (y :: r))).length ≤ _
    rw [List.length_append, List.length_append, List.map_cons, List.sum_cons, List.length_cons (a := x)]
    rw [Nat.add_mul]
    omega
mutual
theorem Pl.text_len {w : Nat} : ∀ (p : Pl), p.fits w = true → (∀ r ∈ p.runs, 0 ≤ r ∧ r < 100) → p.text.length + 6 ≤ 8 * p.runs.length
  | .leaf n, _, h => by
    obtain ⟨h0, h1⟩ := h n (by simp [Pl.runs])
    have e : n = ((n.toNat : Nat) : Int) := by omega
    have := (num_facts (n := n.toNat) (by omega)).1
    rw [← e] at this
    simp only [Pl.text, Pl.runs, List.length_singleton]
    omega
  | .node ps, h, hr => by
    rw [Pl.fits] at h
    simp only [Bool.and_eq_true, decide_eq_true_eq] at h
    have ih := Pl.text_lenL ps h.2 hr
    rw [str_len]
    show (tl ((("( " : Str) ++ Txt.join (" " : Str) (Pl.textL ps)) ++ (" )" : Str))).length + 6 ≤ 8 * (Pl.runsL ps).length
    rw [tl_append, tl_append, tl_join', List.length_append, List.length_append]
    have jl := joinL_len (s := tl (" " : Str)) ((Pl.textL ps).map tl)
    have e1 : (tl ("( " : Str)).length = 2 := by decide +kernel
    have e2 : (tl (" )" : Str)).length = 2 := by decide +kernel
    have e3 : (tl (" " : Str)).length = 1 := by decide +kernel
    have e4 : ((Pl.textL ps).map tl).length = ps.length := by rw [Pl.textL_map, List.length_map, List.length_map]
    have e5 : (((Pl.textL ps).map tl).map List.length).sum = ((Pl.textL ps).map fun x => x.length).sum := by
      rw [List.map_map]
      exact congrArg List.sum (List.map_congr_left fun x _ => (str_len x).symm)
    rw [e5, e4, e3] at jl
    omega
theorem Pl.text_lenL {w : Nat} : ∀ (ps : List Pl), Pl.fitsL w ps = true → (∀ r ∈ Pl.runsL ps, 0 ≤ r ∧ r < 100) → ((Pl.textL ps).map fun x => x.length).sum + 6 * ps.length ≤ 8 * (Pl.runsL ps).length
  | [], _, _ => by simp [Pl.textL, Pl.runsL]
  | p :: ps, h, hr => by
    rw [Pl.fitsL] at h
    simp only [Bool.and_eq_true] at h
    rw [Pl.runsL] at hr
    have a := Pl.text_len p h.1 fun r hr' => hr r (List.mem_append_left _ hr')
    have b := Pl.text_lenL ps h.2 fun r hr' => hr r (List.mem_append_right _ hr')
    rw [Pl.textL, List.map_cons, List.sum_cons, Pl.runsL, List.length_append, List.length_cons]
    omega
end
end Rs

namespace Rs
open PySem PySem.Spec PyProof.Rows L2
abbrev N_runs_in : List Str := ["plan", "found", "part"]
abbrev P_runs_in : List Str := ["plan"]
def spr_runs_in (K : PySem.W.Frag) (d : Nat) : Sp := fun vs H Q E => match vs with
  | [pv] => ∃ pl, PlR H pv pl ∧ pl.depth < d ∧ pl.runs.length ≤ 1000 ∧ ∀ l H', H l = none → H' l = some (.lst (pl.runs.map V.int)) → Same H H' → Q (.ref l) H'
  | _ => False
abbrev sp_runs_in (K : PySem.W.Frag) : Sp := spr_runs_in K 42
theorem no_runs_in (K : PySem.W.Frag) : ∀ vs H Q E, ¬ spr_runs_in K 0 vs H Q E := fun vs H Q E h => by
  unfold spr_runs_in at h
  match vs, h with
  | [_], ⟨_, _, h1, _⟩ => omega
theorem len_runs_in (K : PySem.W.Frag) : ∀ d vs H Q E, spr_runs_in K d vs H Q E → vs.length = 1 := fun d vs H Q E h => by
  unfold spr_runs_in at h
  match vs, h with
  | [_], _ => rfl
def t_runs_in (K : PySem.W.Frag) (sp : Sp) (E : XK) : TS := (tSeq (tIfS (tNot (tB (tIsi K "tuple" (tVar 0)))) (tRet (tLst (tCons (tVar 0) tNil))) tNext)
  (tSeq (tAsg (tLst tNil) (gName 1))
   (tSeq (tFor (iTup K (tVar 0)) (gName 2) (tDrop (tBM K "list" rExtend (tVar 1) (tCons (tCall sp [] E (tCons (tVar 2) tNil)) tNil))))
    (tRet (tVar 1)))))
theorem runsL_take (ps : List Pl) (j : Nat) : (Pl.runsL (ps.take j)).length ≤ (Pl.runsL ps).length := by
  have e : Pl.runsL ps = Pl.runsL (ps.take j) ++ Pl.runsL (ps.drop j) := by
    rw [Pl.runsL_map, Pl.runsL_map, Pl.runsL_map, ← List.flatten_append, ← List.map_append, List.take_append_drop]
  rw [e, List.length_append]
  omega
theorem runsL_snoc {ps : List Pl} {j : Nat} {p : Pl} (h : ps[j]? = some p) : Pl.runsL (ps.take (j + 1)) = Pl.runsL (ps.take j) ++ p.runs := by
  rw [List.take_succ, h, Pl.runsL_map, Pl.runsL_map, List.map_append, List.flatten_append]
  simp
theorem pure_runs_in {K : PySem.W.Frag} (d : Nat) : ∀ vs H Q E, spr_runs_in K (d + 1) vs H Q E → t_runs_in K (spr_runs_in K d) E { nx := fun _ H' => Q .non H', rt := Q } (start N_runs_in vs) H := by
  intro vs H Q E hyp
  unfold spr_runs_in at hyp
  match vs, hyp with
  | [pv], hyp =>
    obtain ⟨pl, hp, hd, hl, k⟩ := hyp
    cases pl with
    | leaf n =>
      have e := PlR.unleaf hp
      subst e
      refine ⟨_, rfl, isi_go (t := "int") (b := false) (.base (.int n)) (by decide +kernel) ⟨_, rfl, _, rfl, szle (by show 1 ≤ 100000; decide), fun l hl => ?_⟩⟩
      exact k l _ hl upd_same (Rs.Same.new hl)
    | node ps =>
      obtain ⟨a, tv, rfl, et, pt⟩ := PlR.unnode hp
      rw [Pl.depth] at hd
      rw [Pl.runs] at hl k
      refine ⟨_, rfl, isi_go (t := "tuple") (b := true) (tyT (SqT.of et)) (by decide +kernel) ⟨_, rfl, ?_⟩⟩
      refine ⟨sz0, fun f hf => ?_⟩
      refine ⟨_, rfl, a, rfl, ⟨_, SqT.of ((Rs.Same.new hf) _ _ et)⟩, ?_⟩
      refine for_tup (K := K) (a := a) (xs := tv) (fun j σ H' => ∃ x2, σ = [some (.ref a), some (.ref f), x2] ∧ H' f = some (.lst ((Pl.runsL (ps.take j)).map V.int)) ∧ Same H H') ⟨none, rfl, upd_same, Rs.Same.new hf⟩ ?_ ?_ ?_
      · rintro j σ H' _ ⟨_, _, _, s⟩
        exact SqT.of (s _ _ et)
      · rintro j v σ H' hj ⟨x2, rfl, ef, s⟩
        obtain ⟨p, hp, hpv⟩ := P2.get pt hj
        have dl := Pl.depthL_le (List.mem_of_getElem? hp)
        have b1 := runsL_take ps (j + 1)
        rw [runsL_snoc hp, List.length_append] at b1
        refine ⟨_, rfl, .inl ⟨rfl, _, SqL.of ef⟩, _, rfl, p, PlR.st _ _ _ _ (TupLe.same s) hpv, by omega, by omega, fun l H2 hl2 el s2 => ?_⟩
        have ef2 := s2 _ _ ef
        refine ⟨f, l, _, _, rfl, rfl, ef2, el, szle (by rw [List.length_map, List.length_map]; omega), _, rfl, ?_, Rs.Same.mut (s.trans s2) hf⟩
        rw [upd_same, runsL_snoc hp, List.map_append]
      · rintro σ H' ⟨x2, rfl, ef, s⟩
        rw [List.take_of_length_le (by rw [pt.length]; exact Nat.le_refl _)] at ef
        exact ⟨_, rfl, k f H' hf ef s⟩
abbrev N_are_merges : List Str := ["plan", "ways", "part"]
abbrev P_are_merges : List Str := ["plan", "ways"]
mutual
def Pl.slim : Pl → Prop
  | .leaf _ => True
  | .node ps => ps.length ≤ 1000 ∧ Pl.slimL ps
def Pl.slimL : List Pl → Prop
  | [] => True
  | p :: ps => p.slim ∧ Pl.slimL ps
end
theorem Pl.slimL_of {ps : List Pl} (h : Pl.slimL ps) : ∀ p ∈ ps, p.slim := by
  induction ps with
  | nil => intro p hp; simp at hp
  | cons q ps ih =>
    rw [Pl.slimL] at h
    intro p hp
    rcases List.mem_cons.mp hp with e | e
    · rw [e]; exact h.1
    · exact ih h.2 p e
mutual
theorem Pl.slim_fits {w : Nat} (hw : w ≤ 1000) : ∀ p : Pl, p.fits w = true → p.slim
  | .leaf _, _ => trivial
  | .node ps, h => by
    rw [Pl.fits] at h
    simp only [Bool.and_eq_true, decide_eq_true_eq] at h
    exact ⟨by omega, Pl.slimL_fits hw ps h.2⟩
theorem Pl.slimL_fits {w : Nat} (hw : w ≤ 1000) : ∀ ps : List Pl, Pl.fitsL w ps = true → Pl.slimL ps
  | [], _ => trivial
  | p :: ps, h => by
    rw [Pl.fitsL] at h
    simp only [Bool.and_eq_true] at h
    exact ⟨Pl.slim_fits hw p h.1, Pl.slimL_fits hw ps h.2⟩
end
def spr_are_merges (K : PySem.W.Frag) (d : Nat) : Sp := fun vs H Q E => match vs with
  | [pv, wv] => ∃ (pl : Pl) (w : Nat), PlR H pv pl ∧ pl.depth < d ∧ pl.slim ∧ wv = .int (w : Int) ∧ ∀ H', Same H H' → Q (.bl (pl.fits w)) H'
  | _ => False
abbrev sp_are_merges (K : PySem.W.Frag) : Sp := spr_are_merges K 42
theorem no_are_merges (K : PySem.W.Frag) : ∀ vs H Q E, ¬ spr_are_merges K 0 vs H Q E := fun vs H Q E h => by
  unfold spr_are_merges at h
  match vs, h with
  | [_, _], ⟨_, _, _, h1, _⟩ => omega
theorem len_are_merges (K : PySem.W.Frag) : ∀ d vs H Q E, spr_are_merges K d vs H Q E → vs.length = 2 := fun d vs H Q E h => by
  unfold spr_are_merges at h
  match vs, h with
  | [_, _], _ => rfl
def t_are_merges (K : PySem.W.Frag) (sp : Sp) (E : XK) : TS := (tSeq (tIfS (tNot (tB (tIsi K "tuple" (tVar 0)))) (tRet (tC (.bl true))) tNext)
  (tRet (tAndV (tChain xLe xLe (tC (.int 2)) (tCB1 (xLen K) (tVar 0)) (tVar 1)) (tOp (xEqE K) (tLc (iTup K (tVar 0)) (gName 2) (tNot (tB (tCall sp [] E0 (tCons (tVar 2) (tCons (tVar 1) tNil))))) (tVar 2) [2]) (tLst tNil)))))
theorem pure_are_merges {K : PySem.W.Frag} (d : Nat) : ∀ vs H Q E, spr_are_merges K (d + 1) vs H Q E → t_are_merges K (spr_are_merges K d) E { nx := fun _ H' => Q .non H', rt := Q } (start N_are_merges vs) H := by
  intro vs H Q E hyp
  unfold spr_are_merges at hyp
  match vs, hyp with
  | [pv, wv], hyp =>
    obtain ⟨pl, w, hp, hd, sl, rfl, k⟩ := hyp
    cases pl with
    | leaf n =>
      have e := PlR.unleaf hp
      subst e
      exact ⟨_, rfl, isi_go (t := "int") (b := false) (.base (.int n)) (by decide +kernel) ⟨_, rfl, k H (Same.refl H)⟩⟩
    | node ps =>
      obtain ⟨a, tv, rfl, et, pt⟩ := PlR.unnode hp
      have lt := pt.length
      rw [Pl.depth] at hd
      rw [Pl.slim] at sl
      rw [Pl.fits] at k
      have sls := Pl.slimL_of sl.2
      refine ⟨_, rfl, isi_go (t := "tuple") (b := true) (tyT (SqT.of et)) (by decide +kernel) ⟨_, rfl, ?_⟩⟩
      refine ⟨_, rfl, lenT ⟨a, rfl, et⟩ rfl ⟨_, _, rfl, rfl, _, rfl, ?_⟩⟩
      rw [lt]
      by_cases h2 : (2 : Int) ≤ ((ps.length : Nat) : Int)
      · rw [decide_eq_true h2]
        refine ⟨_, rfl, _, _, rfl, rfl, _, rfl, ?_⟩
        have e2 : decide (2 ≤ ps.length) = true := decide_eq_true (by omega)
        by_cases hw : ((ps.length : Nat) : Int) ≤ (w : Int)
        · rw [decide_eq_true hw]
          have ew : decide (ps.length ≤ w) = true := decide_eq_true (by omega)
          rw [e2, ew, Bool.true_and, Bool.true_and] at k
          refine ⟨_, rfl, a, rfl, ⟨_, SqT.of et⟩, fun D hD => ?_⟩
          refine lcm_tup (S := PlR) (fun p : Pl => if (!p.fits w) = true then some p else none) PlR.st et pt hD ?_ (by omega) ?_
          · intro j v x H' hx hj r s skip put
            have dl := Pl.depthL_le (List.mem_of_getElem? hx)
            have r' := PlR.st _ _ _ _ (TupLe.same s) r
            refine ⟨rfl, _, rfl, _, rfl, x, w, r', by omega, sls x (List.mem_of_getElem? hx), rfl, fun H2 s2 => ⟨_, rfl, ?_⟩⟩
            cases hf : x.fits w with
            | true => exact skip H2 s2 (by rw [hf]; rfl)
            | false => exact ⟨_, rfl, put H2 _ _ s2 (by rw [hf]; rfl) (PlR.st _ _ _ _ (TupLe.same s2) r')⟩
          · intro H2 L s
            rw [fm_if (f := fun p => p), List.map_id'] at L
            obtain ⟨dv, ed, pd⟩ := L
            refine ⟨sz0, fun q hq => eqE ed hq (b := Pl.fitsL w ps) ?_ (k _ (s.trans (Rs.Same.new hq)))⟩
            have : dv.isEmpty = (ps.filter fun p => !p.fits w).isEmpty := by
              have l := pd.length
              cases dv <;> cases hh : (ps.filter fun p => !p.fits w) <;> simp [hh] at l ⊢
            rw [this, filter_nil_all, Pl.fitsL_all]
        · rw [decide_eq_false hw]
          have ew : decide (ps.length ≤ w) = false := decide_eq_false (by omega)
          rw [e2, ew] at k
          exact k H (Same.refl H)
      · rw [decide_eq_false h2]
        have e2 : decide (2 ≤ ps.length) = false := decide_eq_false (by omega)
        rw [e2] at k
        exact ⟨_, rfl, k H (Same.refl H)⟩
abbrev N_rows_in : List Str := ["lengths", "plan", "run"]
abbrev P_rows_in : List Str := ["lengths", "plan"]
/-- the rows of some runs -/
def sumOf (ls : List Int) (ids : List Int) : Int := (ids.map fun r => ls.getD r.toNat 0).sum
def sp_rows_in (K : PySem.W.Frag) : Sp := fun vs H Q E => match vs with
  | [lv, pv] => ∃ (l : Addr) (ls : List Int) (pl : Pl), lv = .ref l ∧ H l = some (.lst (ls.map V.int)) ∧ PlR H pv pl ∧ pl.depth < 42 ∧ pl.runs.length ≤ 1000 ∧ (∀ r ∈ pl.runs, 0 ≤ r ∧ r < ls.length) ∧ ∀ H', Same H H' → Q (.int (sumOf ls pl.runs)) H'
  | _ => False
def t_rows_in (K : PySem.W.Frag) (E : XK) : TS := (tRet (tCB1 (rSum K) (tLc (iList K (tCall (sp_runs_in K) [] E (tCons (tVar 1) tNil))) (gName 2) tYes (tOp (rIxL K) (tVar 0) (tVar 2)) [2])))
theorem pure_rows_in {K : PySem.W.Frag} : ∀ vs H Q E, sp_rows_in K vs H Q E → t_rows_in K E { nx := fun _ H' => Q .non H', rt := Q } (start N_rows_in vs) H := by
  intro vs H Q E hyp
  match vs, hyp with
  | [lv, pv], hyp =>
    obtain ⟨l, ls, pl, rfl, hl, hp, hd, hn, hin, k⟩ := hyp
    refine ⟨_, rfl, pl, hp, hd, hn, fun lr H1 hlr er s1 => ?_⟩
    refine ⟨lr, rfl, ⟨_, SqL.of er⟩, fun D hD => ?_⟩
    refine lcm_list (S := IntAt) (fun r : Int => some (ls.getD r.toNat 0)) IntAt.st er (ints_paired pl.runs) hD ?_ (by omega) ?_
    · intro j v x H' hx hj r s skip put
      have ev : v = .int x := r
      subst ev
      obtain ⟨h0, h1⟩ := hin x (List.mem_of_getElem? hx)
      refine ⟨rfl, lc_yes ⟨_, rfl, _, rfl, ixL ((s1.trans s) _ _ hl) (j := x.toNat) (by omega) (v := .int (ls.getD x.toNat 0)) ?_ (put H' _ _ (Same.refl _) rfl rfl)⟩⟩
      rw [List.getElem?_map, List.getElem?_eq_getElem (by omega), getD_lt (by omega)]
      rfl
    · intro H2 L s
      rw [fm_some] at L
      exact ⟨D, _, rfl, SqL.of (Lst.ints.mp L), k H2 (s1.trans s)⟩
abbrev N_moved : List Str := ["lengths", "plan", "part"]
abbrev P_moved : List Str := ["lengths", "plan"]
mutual
def Pl.cost (ls : List Int) : Pl → Int
  | .leaf _ => 0
  | .node ps => sumOf ls (Pl.runsL ps) + Pl.costL ls ps
def Pl.costL (ls : List Int) : List Pl → Int
  | [] => 0
  | p :: ps => p.cost ls + Pl.costL ls ps
end
theorem Pl.costL_map (ls : List Int) (ps : List Pl) : Pl.costL ls ps = (ps.map fun p => p.cost ls).sum := by
  induction ps with
  | nil => rfl
  | cons p ps ih => rw [Pl.costL, ih, List.map_cons, List.sum_cons]
def spr_moved (K : PySem.W.Frag) (d : Nat) : Sp := fun vs H Q E => match vs with
  | [lv, pv] => ∃ (l : Addr) (ls : List Int) (pl : Pl), lv = .ref l ∧ H l = some (.lst (ls.map V.int)) ∧ PlR H pv pl ∧ pl.depth < d ∧ pl.depth < 42 ∧ pl.slim ∧ pl.runs.length ≤ 1000 ∧ (∀ r ∈ pl.runs, 0 ≤ r ∧ r < ls.length) ∧ ∀ H', Same H H' → Q (.int (pl.cost ls)) H'
  | _ => False
abbrev sp_moved (K : PySem.W.Frag) : Sp := spr_moved K 42
theorem no_moved (K : PySem.W.Frag) : ∀ vs H Q E, ¬ spr_moved K 0 vs H Q E := fun vs H Q E h => by
  unfold spr_moved at h
  match vs, h with
  | [_, _], ⟨_, _, _, _, _, _, h1, _⟩ => omega
theorem len_moved (K : PySem.W.Frag) : ∀ d vs H Q E, spr_moved K d vs H Q E → vs.length = 2 := fun d vs H Q E h => by
  unfold spr_moved at h
  match vs, h with
  | [_, _], _ => rfl
def t_moved (K : PySem.W.Frag) (sp : Sp) (E : XK) : TS := (tSeq (tIfS (tNot (tB (tIsi K "tuple" (tVar 1)))) (tRet (tC (.int 0))) tNext)
  (tRet (tOp xAdd (tCall (sp_rows_in K) [] E (tCons (tVar 0) (tCons (tVar 1) tNil))) (tCB1 (rSum K) (tLc (iTup K (tVar 1)) (gName 2) tYes (tCall sp [] E0 (tCons (tVar 0) (tCons (tVar 2) tNil))) [2])))))
theorem Pl.runs_sub {ps : List Pl} {p : Pl} (h : p ∈ ps) : p.runs.Sublist (Pl.runsL ps) := by
  rw [Pl.runsL_map]
  exact List.sublist_flatten_of_mem (List.mem_map_of_mem h)
theorem pure_moved {K : PySem.W.Frag} (d : Nat) : ∀ vs H Q E, spr_moved K (d + 1) vs H Q E → t_moved K (spr_moved K d) E { nx := fun _ H' => Q .non H', rt := Q } (start N_moved vs) H := by
  intro vs H Q E hyp
  unfold spr_moved at hyp
  match vs, hyp with
  | [lv, pv], hyp =>
    obtain ⟨l, ls, pl, rfl, hl, hp, hd, hd2, sl, hn, hin, k⟩ := hyp
    cases pl with
    | leaf n =>
      have e := PlR.unleaf hp
      subst e
      exact ⟨_, rfl, isi_go (t := "int") (b := false) (.base (.int n)) (by decide +kernel) ⟨_, rfl, k H (Same.refl H)⟩⟩
    | node ps =>
      have hp0 := hp
      obtain ⟨a, tv, rfl, et, pt⟩ := PlR.unnode hp
      have dn : (Pl.node ps).depth = Pl.depthL ps + 1 := by rw [Pl.depth]
      have rn : (Pl.node ps).runs = Pl.runsL ps := by rw [Pl.runs]
      have sl0 := sl
      rw [Pl.slim] at sl
      have sls := Pl.slimL_of sl.2
      have lt := pt.length
      refine ⟨_, rfl, isi_go (t := "tuple") (b := true) (tyT (SqT.of et)) (by decide +kernel) ⟨_, rfl, ?_⟩⟩
      refine ⟨_, rfl, _, rfl, l, ls, .node ps, rfl, hl, hp0, hd2, hn, hin, fun H1 s1 => ?_⟩
      refine ⟨_, rfl, a, rfl, ⟨_, SqT.of (s1 _ _ et)⟩, fun D hD => ?_⟩
      refine lcm_tup (S := IntAt) (fun p : Pl => some (p.cost ls)) IntAt.st (s1 _ _ et) (Paired.tl PlR.st (TupLe.same s1) pt) hD ?_ (by omega) ?_
      · intro j v x H' hx hj r s skip put
        have xm := List.mem_of_getElem? hx
        have dl := Pl.depthL_le xm
        have sb := Pl.runs_sub xm
        have sbl := sb.length_le
        rw [rn] at hn hin
        refine ⟨rfl, lc_yes ⟨_, rfl, _, rfl, l, ls, x, rfl, (s1.trans s) _ _ hl, PlR.st _ _ _ _ (TupLe.same s) r, by omega, by omega, sls x xm, by omega, fun q hq => hin q (sb.subset hq), fun H2 s2 => put H2 _ _ s2 rfl rfl⟩⟩
      · intro H2 L s
        rw [fm_some] at L
        refine ⟨D, _, rfl, SqL.of (Lst.ints.mp L), _, _, rfl, rfl, ?_⟩
        have e : sumOf ls (Pl.node ps).runs + (ps.map fun p => p.cost ls).sum = (Pl.node ps).cost ls := by
          rw [Pl.cost, Pl.costL_map, rn]
        dsimp only
        rw [e]
        exact k H2 (s1.trans s)
abbrev N_cost : List Str := ["lengths", "ways", "plan"]
abbrev P_cost : List Str := ["lengths", "ways", "plan"]
def sp_cost (K : PySem.W.Frag) : Sp := fun vs H Q E => match vs with
  | [lv, wv, pv] => ∃ (l : Addr) (ls : List Int) (w : Nat) (pl : Pl), lv = .ref l ∧ H l = some (.lst (ls.map V.int)) ∧ GoodLens ls ∧ wv = .int (w : Int) ∧ 2 ≤ w ∧ w ≤ 6 ∧ PlR H pv pl ∧ pl.fits w = true ∧ pl.runs.Perm (rng 0 ls.length) ∧ ∀ H', Same H H' → Q (.int (pl.cost ls)) H'
  | _ => False
def t_cost (K : PySem.W.Frag) (E : XK) : TS := (tSeq (tDrop (tCall (sp_need_lengths K) [] E (tCons (tVar 0) tNil)))
  (tSeq (tDrop (tCall (sp_need_ways K) [] E (tCons (tVar 1) tNil)))
   (tSeq (tIfS (tOr (tTest (tOp (rNeD K) (tCB1 (rSortedI K) (tCall (sp_runs_in K) [] E (tCons (tVar 2) tNil))) (tLstRg (tRg1 (tCB1 (xLen K) (tVar 0)))))) (tNot (tB (tCall (sp_are_merges K) [] E (tCons (tVar 2) (tCons (tVar 1) tNil)))))) tNever tNext)
    (tRet (tCall (sp_moved K) [] E (tCons (tVar 0) (tCons (tVar 2) tNil)))))))
theorem rng_len (n : Nat) : (rng 0 n).length = n := by
  unfold rng
  rw [List.length_map, List.length_range]
  omega
theorem rng_in {n : Nat} {r : Int} (h : r ∈ rng 0 n) : 0 ≤ r ∧ r < n := by
  obtain ⟨i, hi, rfl⟩ := List.mem_map.mp h
  have := List.mem_range.mp hi
  constructor <;> omega
theorem rng_up (n : Nat) : (rng 0 n).Pairwise (· ≤ ·) := by
  unfold rng
  rw [List.pairwise_map]
  exact List.Pairwise.imp (fun h => by omega) (List.pairwise_lt_range (n := ((n : Int) - 0).toNat))
theorem int_sorted : ∀ {xs ys : List Int}, xs.Perm ys → xs.Pairwise (· ≤ ·) → ys.Pairwise (· ≤ ·) → xs = ys
  | [], ys, p, _, _ => p.nil_eq
  | x :: xs, [], p, _, _ => absurd p.symm.nil_eq (by simp)
  | x :: xs, y :: ys, p, a, b => by
    have e : x = y := by
      have hx : x ∈ y :: ys := p.mem_iff.mp (List.mem_cons_self ..)
      have hy : y ∈ x :: xs := p.mem_iff.mpr (List.mem_cons_self ..)
      rcases List.mem_cons.mp hx with h | h
      · exact h
      · rcases List.mem_cons.mp hy with h' | h'
        · exact h'.symm
        · have b1 := List.rel_of_pairwise_cons b h
          have a1 := List.rel_of_pairwise_cons a h'
          omega
    subst e
    rw [int_sorted p.cons_inv (List.Pairwise.of_cons a) (List.Pairwise.of_cons b)]
theorem ints_dp {K : PySem.W.Frag} {H : Hp} {l : Addr} {ns : List Int} (h : H l = some (.lst (ns.map V.int))) : Dp K H (.ref l) (.list (ns.map PyData.int)) := lst_dp (R := IntAt) (f := PyData.int) (fun v x e => by
  have e : v = .int x := e
  subst e
  exact .int x) (Lst.ints.mpr h)
theorem ints_ok {ns : List Int} (h : ns.length ≤ 100000) : okD 2 (.list (ns.map PyData.int)) := list_ok (n := 1) h fun _ _ => trivial
theorem pure_cost {K : PySem.W.Frag} : ∀ vs H Q E, sp_cost K vs H Q E → t_cost K E { nx := fun _ H' => Q .non H', rt := Q } (start N_cost vs) H := by
  intro vs H Q E hyp
  match vs, hyp with
  | [lv, wv, pv], hyp =>
    obtain ⟨l, ls, w, pl, rfl, hl, g, rfl, w2, w6, hp, fit, pm, k⟩ := hyp
    have g1 := g.pos
    have g4 := g.le
    have rl := pm.length_eq
    rw [rng_len] at rl
    have dp := Pl.deep pl fit
    have slim := Pl.slim_fits (by omega) pl fit
    refine ⟨_, rfl, l, ls, rfl, hl, g, fun H1 s1 => ?_⟩
    refine ⟨_, rfl, _, rfl, by omega, by omega, fun H2 s2 => ?_⟩
    have s02 := s1.trans s2
    refine ⟨_, rfl, pl, PlR.st _ _ _ _ (TupLe.same s02) hp, by omega, by omega, fun lr H3 hlr er s3 => ?_⟩
    have s03 := s02.trans s3
    refine ⟨lr, _, rfl, SqL.of er, fun ns' p' pm' up' hp' => ?_⟩
    have e1 : ns' = rng 0 ls.length := int_sorted (pm'.trans pm) up' (rng_up _)
    subst e1
    have s4 : Same H3 (upd H3 p' (.lst ((rng 0 ls.length).map V.int))) := Rs.Same.new hp'
    have ep : upd H3 p' (.lst ((rng 0 ls.length).map V.int)) p' = some _ := upd_same
    generalize upd H3 p' (.lst ((rng 0 ls.length).map V.int)) = H4 at s4 ep ⊢
    have s04 := s03.trans s4
    refine ⟨_, rfl, lenL (s04 _ _ hl) rfl ⟨_, rfl, RgOk.of_le (Int.le_refl _) (by rw [List.length_map]; omega) (by decide) (by rw [List.length_map]; omega), fun q hq => ?_⟩⟩
    have eq : rgV 0 (((ls.map V.int).length : Nat) : Int) = (rng 0 ls.length).map V.int := by
      unfold rgV rng
      rw [List.length_map, List.map_map]
      rfl
    rw [eq]
    have s5 : Same H4 (upd H4 q (.lst ((rng 0 ls.length).map V.int))) := Rs.Same.new hq
    have ok := ints_ok (ns := rng 0 ls.length) (by rw [rng_len]; omega)
    refine ⟨_, _, ints_dp (s5 _ _ ep), ints_dp upd_same, ok.shaped (by decide), ok.shaped (by decide), _, rfl, ?_⟩
    rw [ok.eqv]
    have s05 := s04.trans s5
    have hp5 := PlR.st _ _ _ _ (TupLe.same s05) hp
    refine ⟨_, rfl, _, rfl, pl, w, hp5, by omega, slim, rfl, fun H6 s6 => ⟨_, rfl, ?_⟩⟩
    rw [fit]
    have s06 := s05.trans s6
    refine ⟨_, rfl, _, rfl, l, ls, pl, rfl, s06 _ _ hl, PlR.st _ _ _ _ (TupLe.same s6) hp5, by omega, by omega, slim, by omega, fun r hr => rng_in (pm.mem_iff.mp hr), fun H7 s7 => k H7 (s06.trans s7)⟩
end Rs

namespace Rs
open PySem PySem.Spec PyProof.Rows L2
abbrev N_number_of : List Str := ["word", "sign"]
abbrev P_number_of : List Str := ["word"]
open _root_.TL
def figures : List Nat := tl ("0123456789" : Str)
/-- the number that a word writes -/
def numGood (w : Str) : Bool := (decide (1 ≤ w.length) && decide (w.length ≤ 2)) && ((tl w).all fun c => decide (c ∈ figures)) && (decide ((tl w).head? ≠ some 48) || decide (w = "0"))
def numOf (w : Str) : Option Int := if numGood w = true then some ((NumText.digitsVal (tl w) : Nat) : Int) else none
def NumAt : Rel (Option Int) := fun _ v q => match q with
  | none => v = .non
  | some n => v = .int n
def sp_number_of (K : PySem.W.Frag) : Sp := fun vs H Q E => match vs with
  | [wv] => ∃ w : Str, wv = .str w ∧ w.length ≤ 1000 ∧ ∀ v H', NumAt H' v (numOf w) → Same H H' → Q v H'
  | _ => False
def t_number_of (K : PySem.W.Frag) (E : XK) : TS := (tSeq (tIfS (tOr (tNot (tTest (tChain xLe xLe (tC (.int 1)) (tCB1 xLenS (tVar 0)) (tC (.int 2))))) (tTest (tOp (xNeE K) (tLc (iStr (tVar 0)) (gName 1) (tTest (tOpC rNotInS (tVar 1) (.str "0123456789"))) (tVar 1) [1]) (tLst tNil)))) (tRet (tC .non)) tNext)
  (tRet (tIf (tOr (tTest (tOpC rNe (tOpC rIxS (tVar 0) (.int 0)) (.str "0"))) (tTest (tOpC rEq (tVar 0) (.str "0")))) (tCB1 xIntS (tVar 0)) (tC .non))))
theorem figures_eq : figures = [48, 49, 50, 51, 52, 53, 54, 55, 56, 57] := by decide +kernel
theorem pure_number_of {K : PySem.W.Frag} : ∀ vs H Q E, sp_number_of K vs H Q E → t_number_of K E { nx := fun _ H' => Q .non H', rt := Q } (start N_number_of vs) H := by
  intro vs H Q E hyp
  match vs, hyp with
  | [wv], hyp =>
    obtain ⟨w, rfl, hl, k⟩ := hyp
    have bad : numGood w = false → ∀ H', Same H H' → Q .non H' := fun e H' s => k .non H' (by unfold numOf; rw [e]; rfl) s
    refine ⟨_, rfl, ⟨w, rfl, szle (by omega), _, _, rfl, rfl, _, rfl, ?_⟩⟩
    by_cases h1 : (1 : Int) ≤ (w.length : Int)
    · rw [decide_eq_true h1]
      refine ⟨_, _, rfl, rfl, _, rfl, ?_⟩
      by_cases h2 : (w.length : Int) ≤ 2
      · rw [decide_eq_true h2]
        have wl := str_len w
        refine ⟨_, rfl, w, rfl, fun D hD => ?_⟩
        refine lc_it (walk_str (z := w)) (fun j H2 => H2 D = some (.lst (((w.cps.toList.take j).filter fun c => !decide (c ∈ figures)).map fun c => V.str ⟨#[c]⟩)) ∧ Same H H2) ⟨upd_same, Rs.Same.new hD⟩ (fun _ _ _ _ => trivial) ?_ ?_
        · rintro j x H1 H2 hj ⟨hd, s1⟩ ⟨rfl, c, hc, rfl⟩
          have hc' : w.cps.toList[j]? = some c := by simpa using hc
          refine ⟨rfl, _, rfl, c, _, rfl, rfl, _, rfl, ?_⟩
          have el : ("0123456789" : Str).cps.toList = figures := rfl
          rw [el]
          by_cases hm : c ∈ figures
          · rw [decide_eq_true hm]
            refine ⟨?_, s1⟩
            rw [hd, List.take_succ, hc', List.filter_append]
            simp [hm]
          · rw [decide_eq_false hm]
            refine ⟨_, rfl, _, hd, szlt (by rw [List.length_map]; have := List.length_filter_le (fun c => !decide (c ∈ figures)) (w.cps.toList.take j); have wz : w.cps.toList.length = w.length := (by simp [Str.length]); rw [List.length_take] at this; omega), ?_, Rs.Same.mut s1 hD⟩
            rw [upd_same, List.take_succ, hc', List.filter_append]
            simp [hm]
        · rintro H2 ⟨hd, s1⟩
          rw [List.take_of_length_le (by simp)] at hd
          refine ⟨sz0, fun p hp => ?_⟩
          have s2 := s1.trans (Rs.Same.new (o := .lst []) hp)
          have ea := filter_nil_all (fun c => decide (c ∈ figures)) (tl w)
          refine neE hd hp (b := !((tl w).all fun c => decide (c ∈ figures))) ?_ ⟨_, rfl, ?_⟩
          · rw [List.isEmpty_map]
            show (!(tl w).all fun c => decide (c ∈ figures)) = !((tl w).filter fun c => !decide (c ∈ figures)).isEmpty
            rw [ea]
          have e12 : (decide (1 ≤ w.length) && decide (w.length ≤ 2)) = true := by rw [decide_eq_true (by omega), decide_eq_true (by omega)]; rfl
          cases hall : (tl w).all fun c => decide (c ∈ figures) with
          | false =>
            refine bad ?_ _ s2
            unfold numGood
            rw [hall, Bool.and_false, Bool.false_and]
          | true =>
            have gd : numGood w = (decide ((tl w).head? ≠ some 48) || decide (w = "0")) := by
              unfold numGood
              rw [e12, hall, Bool.true_and, Bool.true_and]
            obtain ⟨c, r, ec⟩ : ∃ c r, tl w = c :: r := by
              cases h : tl w with
              | nil => rw [h] at wl; simp at wl; omega
              | cons c r => exact ⟨c, r, rfl⟩
            have good : numGood w = true → ∀ H', Same H H' → xIntS [.str w] H' Q := fun e H' s => by
              refine ⟨w, ((NumText.digitsVal (tl w) : Nat) : Int), rfl, ?_, by omega, k _ H' (by unfold numOf; rw [e]; rfl) s⟩
              have := SX.int_S (a := tl w) (by
                rw [List.all_eq_true] at hall ⊢
                intro x hx
                have := of_decide_eq_true (hall x hx)
                rw [figures_eq] at this
                simp at this
                simp
                omega) (by rw [ec]; simp) (by omega)
              rw [show SX.S (tl w) = w from mk_tl w] at this
              exact this
            have ec2 : w.cps.toList = c :: r := ec
            refine ⟨_, rfl, w, 0, c, rfl, rfl, szle (by omega), (show atI w.cps.toList ((0 : Nat) : Int) = some c from atI_nat (by rw [ec2]; rfl)), rfl, _, rfl, ?_⟩
            have e48 : decide (V.str (⟨#[c]⟩ : Str) = V.str "0") = decide (c = 48) := by
              by_cases e : c = 48
              · subst e
                rw [decide_eq_true rfl, decide_eq_true]
                rfl
              · rw [decide_eq_false e, decide_eq_false]
                intro z
                injection z with z
                have := congrArg (fun y : Str => y.cps.toList) z
                have z2 : [c] = [48] := this
                injection z2 with z2
                exact e z2
            rw [e48]
            by_cases e : c = 48
            · rw [decide_eq_true e]
              refine ⟨_, rfl, rfl, _, rfl, ?_⟩
              have hw : decide (V.str w = V.str "0") = decide (w = "0") := by
                by_cases z : w = "0"
                · rw [z, decide_eq_true rfl, decide_eq_true rfl]
                · rw [decide_eq_false z, decide_eq_false fun y => z (by injection y)]
              rw [hw]
              by_cases z : w = "0"
              · rw [decide_eq_true z]
                exact ⟨_, rfl, good (by rw [gd, decide_eq_true z, Bool.or_true]) _ s2⟩
              · rw [decide_eq_false z]
                refine bad ?_ _ s2
                rw [gd, decide_eq_false z, Bool.or_false, ec, e]
                rfl
            · rw [decide_eq_false e]
              refine ⟨_, rfl, good ?_ _ s2⟩
              rw [gd, ec]
              rw [decide_eq_true (show ((c :: r).head? ≠ some 48) by simpa using e)]
              rfl
      · rw [decide_eq_false h2]
        refine bad ?_ H (Same.refl H)
        unfold numGood
        rw [decide_eq_false (show ¬ w.length ≤ 2 by omega), Bool.and_false, Bool.false_and, Bool.false_and]
    · rw [decide_eq_false h1]
      refine ⟨_, rfl, bad ?_ H (Same.refl H)⟩
      unfold numGood
      rw [decide_eq_false (show ¬ 1 ≤ w.length by omega), Bool.false_and, Bool.false_and, Bool.false_and]
theorem num_of_num {n : Nat} (h : n < 100) : numOf (numS n) = some (n : Int) := by
  have : ∀ n : Nat, n < 100 → numOf (numS n) = some (n : Int) := by decide +kernel
  exact this n h
end Rs

namespace Rs
open PySem PySem.Spec PyProof.Rows L2
abbrev N_text_of : List Str := ["plan", "part"]
abbrev P_text_of : List Str := ["plan"]
open _root_.TL
def spr_text_of (K : PySem.W.Frag) (d : Nat) : Sp := fun vs H Q E => match vs with
  | [pv] => ∃ (pl : Pl), PlR H pv pl ∧ pl.depth < d ∧ pl.fits 40 = true ∧ (∀ r ∈ pl.runs, 0 ≤ r ∧ r < 100) ∧ pl.runs.length ≤ 1000 ∧ ∀ H', Same H H' → Q (.str pl.text) H'
  | _ => False
abbrev sp_text_of (K : PySem.W.Frag) : Sp := spr_text_of K 42
theorem no_text_of (K : PySem.W.Frag) : ∀ vs H Q E, ¬ spr_text_of K 0 vs H Q E := fun vs H Q E h => by
  unfold spr_text_of at h
  match vs, h with
  | [_], ⟨_, _, h1, _⟩ => omega
theorem len_text_of (K : PySem.W.Frag) : ∀ d vs H Q E, spr_text_of K d vs H Q E → vs.length = 1 := fun d vs H Q E h => by
  unfold spr_text_of at h
  match vs, h with
  | [_], _ => rfl
def t_text_of (K : PySem.W.Frag) (sp : Sp) (E : XK) : TS := (tSeq (tIfS (tNot (tB (tIsi K "tuple" (tVar 0)))) (tRet (tCB1 xStr (tVar 0))) tNext)
  (tRet (tOpC xAddS (tOpD xAddS (.str "( ") (tM1 (xJoin K) (tC (.str " ")) (tLc (iTup K (tVar 0)) (gName 1) tYes (tCall sp [] E0 (tCons (tVar 1) tNil)) [1]))) (.str " )"))))
theorem log_small {n : Int} (h0 : 0 ≤ n) (h : n < 100) : n.natAbs.log2 < 1920 := by
  have : n.natAbs < 2 ^ 1920 := Nat.lt_of_lt_of_le (by omega : n.natAbs < 2 ^ 7) (Nat.pow_le_pow_right (by decide) (by decide))
  by_cases z : n.natAbs = 0
  · rw [z]; decide
  · exact (Nat.log2_lt z).mpr this
theorem pure_text_of {K : PySem.W.Frag} (d : Nat) : ∀ vs H Q E, spr_text_of K (d + 1) vs H Q E → t_text_of K (spr_text_of K d) E { nx := fun _ H' => Q .non H', rt := Q } (start N_text_of vs) H := by
  intro vs H Q E hyp
  unfold spr_text_of at hyp
  match vs, hyp with
  | [pv], hyp =>
    obtain ⟨pl, hp, hd, fit, hr, hn, k⟩ := hyp
    cases pl with
    | leaf n =>
      have e := PlR.unleaf hp
      subst e
      obtain ⟨h0, h1⟩ := hr n (by simp [Pl.runs])
      exact ⟨_, rfl, isi_go (t := "int") (b := false) (.base (.int n)) (by decide +kernel) ⟨_, rfl, _, rfl, n, rfl, log_small h0 h1, k H (Same.refl H)⟩⟩
    | node ps =>
      have tlen := Pl.text_len _ fit hr
      obtain ⟨a, tv, rfl, et, pt⟩ := PlR.unnode hp
      have lt := pt.length
      rw [Pl.depth] at hd
      rw [Pl.fits] at fit
      simp only [Bool.and_eq_true, decide_eq_true_eq] at fit
      have fl := fit.2
      rw [Pl.fitsL_all, List.all_eq_true] at fl
      rw [Pl.runs] at hr hn
      have tl2 := Pl.text_lenL ps fit.2 hr
      refine ⟨_, rfl, isi_go (t := "tuple") (b := true) (tyT (SqT.of et)) (by decide +kernel) ⟨_, rfl, ?_⟩⟩
      refine ⟨⟨_, rfl⟩, _, rfl, a, rfl, ⟨_, SqT.of et⟩, fun D hD => ?_⟩
      refine lcm_tup (S := StrAt) (fun p : Pl => some p.text) StrAt.st et pt hD ?_ (by omega) ?_
      · intro j v x H' hx hj r s skip put
        have xm := List.mem_of_getElem? hx
        have dl := Pl.depthL_le xm
        have sb := Pl.runs_sub xm
        have sbl := sb.length_le
        exact ⟨rfl, lc_yes ⟨_, rfl, x, PlR.st _ _ _ _ (TupLe.same s) r, by omega, fl x xm, fun q hq => hr q (sb.subset hq), by omega, fun H2 s2 => put H2 _ _ s2 rfl rfl⟩⟩
      · intro H2 L s
        rw [fm_some, ← Pl.textL_map] at L
        have lT : (Pl.textL ps).length = ps.length := by rw [Pl.textL_map, List.length_map]
        refine ⟨_, D, Pl.textL ps, rfl, rfl, .inl (SqL.of (Lst.strs.mp L)), ?_, ?_⟩
        · have : (" " : Str).length = 1 := by decide +kernel
          rw [this, lT]
          have := fit.1.2
          omega
        · have e2 : (("( " : Str) ++ Txt.join (" " : Str) (Pl.textL ps)).length + (" )" : Str).length = (Pl.node ps).text.length := by
            rw [Pl.text, str_len, str_len, str_len, tl_append (("( " : Str) ++ _), List.length_append]
          have e1 : ("( " : Str).length + (Txt.join (" " : Str) (Pl.textL ps)).length = (("( " : Str) ++ Txt.join (" " : Str) (Pl.textL ps)).length := by
            rw [str_len, str_len, str_len, tl_append, List.length_append]
          have rn : (Pl.node ps).runs = Pl.runsL ps := by rw [Pl.runs]
          rw [rn] at tlen
          refine ⟨_, _, rfl, rfl, szle (by rw [e1]; omega), _, _, rfl, rfl, szle (by rw [e2]; omega), ?_⟩
          exact k H2 s
abbrev N_written_plan : List Str := ["lengths", "ways", "plan"]
abbrev P_written_plan : List Str := ["lengths", "ways", "plan"]
def sp_written_plan (K : PySem.W.Frag) : Sp := fun vs H Q E => match vs with
  | [lv, wv, pv] => ∃ (l : Addr) (ls : List Int) (w : Nat) (pl : Pl), lv = .ref l ∧ H l = some (.lst (ls.map V.int)) ∧ GoodLens ls ∧ wv = .int (w : Int) ∧ 2 ≤ w ∧ w ≤ 6 ∧ PlR H pv pl ∧ pl.fits w = true ∧ pl.runs.Perm (rng 0 ls.length) ∧ ∀ H', Same H H' → Q (.str pl.text) H'
  | _ => False
def t_written_plan (K : PySem.W.Frag) (E : XK) : TS := (tSeq (tDrop (tCall (sp_cost K) [] E (tCons (tVar 0) (tCons (tVar 1) (tCons (tVar 2) tNil)))))
  (tRet (tCall (sp_text_of K) [] E (tCons (tVar 2) tNil))))
theorem pure_written_plan {K : PySem.W.Frag} : ∀ vs H Q E, sp_written_plan K vs H Q E → t_written_plan K E { nx := fun _ H' => Q .non H', rt := Q } (start N_written_plan vs) H := by
  intro vs H Q E hyp
  match vs, hyp with
  | [lv, wv, pv], hyp =>
    obtain ⟨l, ls, w, pl, rfl, hl, g, rfl, w2, w6, hp, fit, pm, k⟩ := hyp
    have rl := pm.length_eq
    rw [rng_len] at rl
    have g4 := g.le
    have dp := Pl.deep pl fit
    refine ⟨_, rfl, _, rfl, _, rfl, l, ls, w, pl, rfl, hl, g, rfl, w2, w6, hp, fit, pm, fun H1 s1 => ?_⟩
    exact ⟨_, rfl, pl, PlR.st _ _ _ _ (TupLe.same s1) hp, by omega, Pl.fits_mono (by omega) pl fit, fun r hr => (by
      have := rng_in (pm.mem_iff.mp hr)
      constructor <;> omega), by omega, fun H2 s2 => k H2 (s1.trans s2)⟩
abbrev N_plan_from : List Str := ["words", "place", "word", "number", "found", "part"]
abbrev P_plan_from : List Str := ["words", "place"]
def spr_plan_from (K : PySem.W.Frag) (d : Nat) : Sp := fun vs H Q E => match vs with
  | [wv, iv] => ∃ (l : Addr) (ws rest : List Str) (pl : Pl) (i : Nat), wv = .ref l ∧ H l = some (.lst (ws.map V.str)) ∧ ws.length ≤ 10000 ∧ iv = .int (i : Int) ∧ ws.drop i = pl.words ++ rest ∧ pl.depth < d ∧ pl.fits 40 = true ∧ (∀ r ∈ pl.runs, 0 ≤ r ∧ r < 100) ∧
    ∀ t v H', H t = none → H' t = some (.tup [v, .int ((i + pl.words.length : Nat) : Int)]) → PlR H' v pl → Same H H' → Q (.ref t) H'
  | _ => False
abbrev sp_plan_from (K : PySem.W.Frag) : Sp := spr_plan_from K 42
theorem no_plan_from (K : PySem.W.Frag) : ∀ vs H Q E, ¬ spr_plan_from K 0 vs H Q E := fun vs H Q E h => by
  unfold spr_plan_from at h
  match vs, h with
  | [_, _], ⟨_, _, _, _, _, _, _, _, _, _, h1, _⟩ => omega
theorem len_plan_from (K : PySem.W.Frag) : ∀ d vs H Q E, spr_plan_from K d vs H Q E → vs.length = 2 := fun d vs H Q E h => by
  unfold spr_plan_from at h
  match vs, h with
  | [_, _], _ => rfl
def t_plan_from (K : PySem.W.Frag) (sp : Sp) (E : XK) : TS := (tSeq (tAsg (tIf (tTest (tOp xLt (tVar 1) (tCB1 (xLen K) (tVar 0)))) (tOp (rIxL K) (tVar 0) (tVar 1)) (tC (.str ""))) (gName 2))
  (tSeq (tIfS (tTest (tOpC rNe (tVar 2) (.str "("))) 
     (tSeq (tAsg (tCall (sp_number_of K) [] E (tCons (tVar 2) tNil)) (gName 3))
     (tSeq (tIfS (tTest (tOpC rIsN (tVar 3) .non)) tNever tNext)
      (tRet (tTup (tCons (tVar 3) (tCons (tOpC xAdd (tVar 1) (.int 1)) tNil)))))) tNext)
   (tSeq (tAsg (tLst tNil) (gName 4))
    (tSeq (tAsg (tOpC xAdd (tVar 1) (.int 1)) (gName 1))
     (tSeq (tWhile (tAnd (tTest (tOp xLt (tVar 1) (tCB1 (xLen K) (tVar 0)))) (tTest (tOpC rNe (tOp (rIxL K) (tVar 0) (tVar 1)) (.str ")")))) 
        (tSeq (tAsg (tCall sp [] E (tCons (tVar 0) (tCons (tVar 1) tNil))) (gTup K 2 (gCons (gName 5) (gCons (gName 1) gNil))))
        (tDrop (tBM K "list" rAppend (tVar 4) (tCons (tVar 5) tNil)))))
      (tSeq (tIfS (tOr (tTest (tOp rEq (tVar 1) (tCB1 (xLen K) (tVar 0)))) (tTest (tOp (xEqE K) (tVar 4) (tLst tNil)))) tNever tNext)
       (tRet (tTup (tCons (tCB1 (xTuple K) (tVar 4)) (tCons (tOpC xAdd (tVar 1) (.int 1)) tNil))))))))))
theorem num_ne {n : Nat} (h : n < 100) : numS n ≠ ("(" : Str) ∧ numS n ≠ (")" : Str) ∧ numS n ≠ ("" : Str) := by
  have : ∀ n : Nat, n < 100 → numS n ≠ ("(" : Str) ∧ numS n ≠ (")" : Str) ∧ numS n ≠ ("" : Str) := by decide +kernel
  exact this n h
theorem Pl.first {p : Pl} (hr : ∀ r ∈ p.runs, 0 ≤ r ∧ r < 100) : ∃ w r, p.words = w :: r ∧ w ≠ (")" : Str) := by
  cases p with
  | leaf n =>
    obtain ⟨h0, h1⟩ := hr n (by simp [Pl.runs])
    have e : n = ((n.toNat : Nat) : Int) := by omega
    refine ⟨numS n, [], by rw [Pl.words], ?_⟩
    rw [e]
    exact (num_ne (by omega)).2.1
  | node ps => exact ⟨"(", _, by rw [Pl.words], by decide +kernel⟩
theorem dec_str {a b : Str} : decide (V.str a = V.str b) = decide (a = b) := by
  by_cases z : a = b
  · rw [z, decide_eq_true rfl, decide_eq_true rfl]
  · rw [decide_eq_false z, decide_eq_false fun y => z (by injection y)]
theorem drop_at {α : Type} {ws : List α} {i : Nat} {a : α} {r : List α} (h : ws.drop i = a :: r) : ws[i]? = some a ∧ i < ws.length ∧ ws.drop (i + 1) = r := by
  have l : i < ws.length := by
    by_cases z : i < ws.length
    · exact z
    · rw [List.drop_of_length_le (by omega)] at h
      cases h
  rw [List.drop_eq_getElem_cons l] at h
  injection h with h1 h2
  exact ⟨by rw [List.getElem?_eq_getElem l, h1], l, h2⟩
theorem drop_more {α : Type} {ws : List α} {i : Nat} {a r : List α} (h : ws.drop i = a ++ r) : ws.drop (i + a.length) = r := by
  rw [← List.drop_drop, h, List.drop_left]
theorem pure_plan_from {K : PySem.W.Frag} (d : Nat) : ∀ vs H Q E, spr_plan_from K (d + 1) vs H Q E → t_plan_from K (spr_plan_from K d) E { nx := fun _ H' => Q .non H', rt := Q } (start N_plan_from vs) H := by
  intro vs H Q E hyp
  unfold spr_plan_from at hyp
  match vs, hyp with
  | [wv, iv], hyp =>
    obtain ⟨l, ws, rest, pl, i, rfl, hl, hwl, rfl, hd, dep, fit, hr, k⟩ := hyp
    have lm : (ws.map V.str).length = ws.length := List.length_map ..
    have at_ : ∀ {j : Nat} {w : Str} {r : List Str}, ws.drop j = w :: r → (ws.map V.str)[j]? = some (.str w) ∧ (j : Int) < (((ws.map V.str).length : Nat) : Int) := fun h => by
      obtain ⟨a, b, _⟩ := drop_at h
      exact ⟨by rw [List.getElem?_map, a]; rfl, by rw [lm]; omega⟩
    cases pl with
    | leaf n =>
      rw [Pl.words] at hd k
      obtain ⟨h0, h1⟩ := hr n (by simp [Pl.runs])
      have en : n = ((n.toNat : Nat) : Int) := by omega
      have nums := num_ne (n := n.toNat) (by omega)
      have nof := num_of_num (n := n.toNat) (by omega)
      have nf := (num_facts (n := n.toNat) (by omega)).1
      rw [← en] at nums nof nf
      obtain ⟨a1, a2⟩ := at_ hd
      refine ⟨_, rfl, _, rfl, lenL hl rfl ⟨_, _, rfl, rfl, _, rfl, ?_⟩⟩
      rw [decide_eq_true a2]
      refine ⟨_, rfl, _, rfl, ixL hl rfl a1 ?_⟩
      refine ⟨_, rfl, rfl, _, rfl, ?_⟩
      rw [dec_str, decide_eq_false nums.1]
      refine ⟨_, rfl, numS n, rfl, by omega, fun v H1 hv s1 => ?_⟩
      rw [nof] at hv
      have hv : v = .int n := hv
      subst hv
      refine ⟨_, rfl, rfl, _, rfl, ?_⟩
      refine ⟨_, rfl, _, rfl, _, _, rfl, rfl, szle (by show 2 ≤ 100000; decide), fun t ht => ?_⟩
      exact k t (.int n) _ (s1.free ht) upd_same (.leaf n) (s1.trans (Rs.Same.new ht))
    | node ps =>
      rw [Pl.words] at hd k
      rw [Pl.depth] at dep
      rw [Pl.fits] at fit
      simp only [Bool.and_eq_true, decide_eq_true_eq] at fit
      have fl := fit.2
      rw [Pl.fitsL_all, List.all_eq_true] at fl
      rw [Pl.runs] at hr
      have hrp : ∀ p ∈ ps, ∀ r ∈ p.runs, 0 ≤ r ∧ r < 100 := fun p hp r h => hr r ((Pl.runs_sub hp).subset h)
      have hd1 : ws.drop i = ("(" : Str) :: (Pl.wordsL ps ++ ((")" : Str) :: rest)) := by rw [hd]; simp
      obtain ⟨a1, a2⟩ := at_ hd1
      have hd2 := (drop_at hd1).2.2
      refine ⟨_, rfl, _, rfl, lenL hl rfl ⟨_, _, rfl, rfl, _, rfl, ?_⟩⟩
      rw [decide_eq_true a2]
      refine ⟨_, rfl, _, rfl, ixL hl rfl a1 ?_⟩
      refine ⟨_, rfl, rfl, _, rfl, ?_⟩
      rw [dec_str, decide_eq_true (rfl : ("(" : Str) = "(")]
      refine ⟨sz0, fun f hf => ?_⟩
      refine ⟨_, rfl, _, _, rfl, rfl, ?_⟩
      refine ⟨fun m σ H' => ∃ (j : Nat) (x3 x5 : Option V), m = ps.length - j ∧ j ≤ ps.length ∧ σ = [some (.ref l), some (.int ((i + 1 + (Pl.wordsL (ps.take j)).length : Nat) : Int)), some (.str "("), x3, some (.ref f), x5] ∧ Lst PlR H' f (ps.take j) ∧ Same H H', ⟨_, 0, none, none, rfl, Nat.zero_le _, rfl, ⟨[], upd_same, .nil⟩, Rs.Same.new hf⟩, ?_⟩
      rintro m σ H1 ⟨j, x3, x5, rfl, hj, rfl, ⟨fv, ef, pf⟩, s1⟩
      have lf := pf.length
      rw [List.length_take] at lf
      have wsplit : Pl.wordsL ps = Pl.wordsL (ps.take j) ++ Pl.wordsL (ps.drop j) := by rw [← Pl.wordsL_app, List.take_append_drop]
      have hdj : ws.drop (i + 1 + (Pl.wordsL (ps.take j)).length) = Pl.wordsL (ps.drop j) ++ ((")" : Str) :: rest) := by
        rw [wsplit, List.append_assoc] at hd2
        exact drop_more hd2
      have hl1 := s1 _ _ hl
      by_cases hlt : j < ps.length
      · have hdr : ps.drop j = ps[j] :: ps.drop (j + 1) := List.drop_eq_getElem_cons hlt
        have pm : ps[j] ∈ ps := List.getElem_mem hlt
        obtain ⟨w0, r0, ew, nw⟩ := Pl.first (hrp _ pm)
        have hdp : ws.drop (i + 1 + (Pl.wordsL (ps.take j)).length) = ps[j].words ++ (Pl.wordsL (ps.drop (j + 1)) ++ ((")" : Str) :: rest)) := by
          rw [hdj, hdr, Pl.wordsL, List.append_assoc]
        have hdw : ws.drop (i + 1 + (Pl.wordsL (ps.take j)).length) = w0 :: (r0 ++ (Pl.wordsL (ps.drop (j + 1)) ++ ((")" : Str) :: rest))) := by
          rw [hdp, ew]
          rfl
        obtain ⟨b1, b2⟩ := at_ hdw
        refine ⟨_, rfl, _, rfl, lenL hl1 rfl ⟨_, _, rfl, rfl, _, rfl, ?_⟩⟩
        rw [decide_eq_true b2]
        refine ⟨_, rfl, _, rfl, ixL hl1 rfl b1 ⟨rfl, _, rfl, ?_⟩⟩
        rw [dec_str, decide_eq_false nw]
        have dl := Pl.depthL_le pm
        refine ⟨fun σ H' => ∃ (j' : Nat) (x3 x5 : Option V), ps.length - j' < ps.length - j ∧ j' ≤ ps.length ∧ σ = [some (.ref l), some (.int ((i + 1 + (Pl.wordsL (ps.take j')).length : Nat) : Int)), some (.str "("), x3, some (.ref f), x5] ∧ Lst PlR H' f (ps.take j') ∧ Same H H', ?_, ?_⟩
        · rintro σ H' ⟨j', x3, x5, q1, q2⟩
          exact ⟨_, q1, j', x3, x5, rfl, q2⟩
        refine ⟨_, rfl, _, rfl, l, ws, _, ps[j], _, rfl, hl1, hwl, rfl, hdp, by omega, fl _ pm, hrp _ pm, fun t v H2 ht et hv s2 => ?_⟩
        refine ⟨t, _, rfl, SqT.of et, rfl, _, _, rfl, _, _, rfl, rfl, ?_⟩
        have ef2 := s2 _ _ ef
        refine ⟨_, rfl, .inl ⟨rfl, _, SqL.of ef2⟩, _, rfl, _, _, _, rfl, rfl, ef2, szlt (by omega), ?_⟩
        have t3 : TupLe H2 (upd H2 f (.lst (fv ++ [v]))) := (TupLe.refl _).list ef2
        have tk : ps.take (j + 1) = ps.take j ++ [ps[j]] := by rw [List.take_succ, List.getElem?_eq_getElem hlt]; rfl
        refine ⟨j + 1, x3, some v, by omega, hlt, ?_, ⟨_, upd_same, ?_⟩, Rs.Same.mut (s1.trans s2) hf⟩
        · have : i + 1 + (Pl.wordsL (ps.take (j + 1))).length = i + 1 + (Pl.wordsL (ps.take j)).length + ps[j].words.length := by
            rw [tk, Pl.wordsL_app, List.length_append, Pl.wordsL, Pl.wordsL, List.append_nil]
            omega
          rw [this]
          rfl
        · rw [tk]
          exact P2.app (Paired.tl PlR.st ((TupLe.same s2).trans t3) pf) (P2.one (PlR.st _ _ _ _ t3 hv))
      · have ej : j = ps.length := by omega
        subst ej
        rw [List.take_length] at *
        rw [List.drop_length] at hdj
        have hdw : ws.drop (i + 1 + (Pl.wordsL ps).length) = (")" : Str) :: rest := hdj
        obtain ⟨b1, b2⟩ := at_ hdw
        refine ⟨_, rfl, _, rfl, lenL hl1 rfl ⟨_, _, rfl, rfl, _, rfl, ?_⟩⟩
        rw [decide_eq_true b2]
        refine ⟨_, rfl, _, rfl, ixL hl1 rfl b1 ⟨rfl, _, rfl, ?_⟩⟩
        rw [dec_str, decide_eq_true (rfl : (")" : Str) = ")")]
        refine ⟨_, rfl, _, rfl, lenL hl1 rfl ⟨rfl, _, rfl, ?_⟩⟩
        have en : decide (V.int ((i + 1 + (Pl.wordsL ps).length : Nat) : Int) = V.int (((ws.map V.str).length : Nat) : Int)) = false := decide_eq_false fun z => by
          injection z with z
          rw [z] at b2
          exact Int.lt_irrefl _ b2
        rw [en]
        refine ⟨_, rfl, sz0, fun q hq => eqE ef hq (b := false) ?_ ⟨_, rfl, ?_⟩⟩
        · cases fv with
          | nil => simp at lf; omega
          | cons a b => rfl
        have s2 := Rs.Same.new (o := .lst []) hq
        have ef2 := s2 _ _ ef
        refine ⟨_, rfl, f, fv, rfl, .inl ⟨SqL.of ef2, fun q2 hq2 => ⟨_, rfl, _, _, rfl, rfl, szle (by show 2 ≤ 100000; decide), fun t ht => ?_⟩⟩⟩
        have s3 := Rs.Same.new (o := .tup fv) hq2
        have s4 := s2.trans s3
        have s14 := s1.trans s4
        have e5 : (("(" : Str) :: (Pl.wordsL ps ++ [(")" : Str)])).length = (Pl.wordsL ps).length + 2 := by simp
        rw [e5] at k
        have s5 : ∀ u, Same (upd (upd H1 q (.lst [])) q2 (.tup fv)) (upd (upd (upd H1 q (.lst [])) q2 (.tup fv)) t u) := fun u => Rs.Same.new ht
        refine k t (.ref q2) _ (s14.free ht) ?_ ?_ (s14.trans (s5 _))
        · rw [upd_same]
          have : ((i + 1 + (Pl.wordsL ps).length : Nat) : Int) + 1 = ((i + ((Pl.wordsL ps).length + 2) : Nat) : Int) := by omega
          dsimp only
          rw [this]
        · exact PlR.node (s5 _ _ _ upd_same) (Paired.tl PlR.st (TupLe.same (s4.trans (s5 _))) pf)
end Rs

namespace Rs
open PySem PySem.Spec PyProof.Rows L2
abbrev N_read_plan : List Str := ["lengths", "ways", "text", "words", "plan", "place"]
abbrev P_read_plan : List Str := ["lengths", "ways", "text"]
open _root_.TL
def sp_read_plan (K : PySem.W.Frag) : Sp := fun vs H Q E => match vs with
  | [lv, wv, tv] => ∃ (l : Addr) (ls : List Int) (w : Nat) (pl : Pl), lv = .ref l ∧ H l = some (.lst (ls.map V.int)) ∧ GoodLens ls ∧ wv = .int (w : Int) ∧ 2 ≤ w ∧ w ≤ 6 ∧ tv = .str pl.text ∧ pl.fits w = true ∧ pl.runs.Perm (rng 0 ls.length) ∧ ∀ v H', PlR H' v pl → Same H H' → Q v H'
  | _ => False
def t_read_plan (K : PySem.W.Frag) (E : XK) : TS := (tSeq (tDrop (tCall (sp_need_lengths K) [] E (tCons (tVar 0) tNil)))
  (tSeq (tDrop (tCall (sp_need_ways K) [] E (tCons (tVar 1) tNil)))
   (tSeq (tAsg (tIf (tTest (tOpC rNe (tVar 2) (.str ""))) (tM1 xSplit (tVar 2) (tC (.str " "))) (tLst tNil)) (gName 3))
    (tSeq (tAsg (tCall (sp_plan_from K) [] E (tCons (tVar 3) (tConsC (.int 0) tNil))) (gTup K 2 (gCons (gName 4) (gCons (gName 5) gNil))))
     (tSeq (tIfS (tTest (tOp xLt (tVar 5) (tCB1 (xLen K) (tVar 3)))) tNever tNext)
      (tSeq (tDrop (tCall (sp_cost K) [] E (tCons (tVar 0) (tCons (tVar 1) (tCons (tVar 4) tNil)))))
       (tRet (tVar 4))))))))
theorem sp_chars : tl (" " : Str) = [32] := by decide +kernel
mutual
theorem Pl.no_blank : ∀ (p : Pl), (∀ r ∈ p.runs, 0 ≤ r ∧ r < 100) → ∀ w ∈ p.words, 32 ∉ tl w ∧ w.length ≤ 2
  | .leaf n, hr, w, hw => by
    rw [Pl.words, List.mem_singleton] at hw
    subst hw
    obtain ⟨h0, h1⟩ := hr n (by simp [Pl.runs])
    have en : n = ((n.toNat : Nat) : Int) := by omega
    obtain ⟨a, b, c⟩ := num_facts (n := n.toNat) (by omega)
    rw [← en] at a b c
    exact ⟨fun z => by have := c 32 z; omega, a⟩
  | .node ps, hr, w, hw => by
    rw [Pl.words] at hw
    rw [Pl.runs] at hr
    rcases List.mem_cons.mp hw with e | hw
    · rw [e]; exact ⟨by decide +kernel, by decide +kernel⟩
    · rcases List.mem_append.mp hw with hw | hw
      · exact Pl.no_blankL ps hr w hw
      · rw [List.mem_singleton] at hw
        rw [hw]; exact ⟨by decide +kernel, by decide +kernel⟩
theorem Pl.no_blankL : ∀ (ps : List Pl), (∀ r ∈ Pl.runsL ps, 0 ≤ r ∧ r < 100) → ∀ w ∈ Pl.wordsL ps, 32 ∉ tl w ∧ w.length ≤ 2
  | [], _, w, hw => by simp [Pl.wordsL] at hw
  | p :: ps, hr, w, hw => by
    rw [Pl.wordsL] at hw
    rw [Pl.runsL] at hr
    rcases List.mem_append.mp hw with hw | hw
    · exact Pl.no_blank p (fun r h => hr r (List.mem_append_left _ h)) w hw
    · exact Pl.no_blankL ps (fun r h => hr r (List.mem_append_right _ h)) w hw
end
theorem sum_le {α : Type} {f : α → Nat} {n : Nat} : ∀ {l : List α}, (∀ x ∈ l, f x ≤ n) → (l.map f).sum ≤ l.length * n
  | [], _ => by simp
  | x :: l, h => by
    have a := h x (List.mem_cons_self ..)
    have b := sum_le (l := l) fun y hy => h y (List.mem_cons_of_mem _ hy)
    rw [List.map_cons, List.sum_cons, List.length_cons, Nat.succ_mul]
    omega
theorem split_words {w : Nat} {p : Pl} (hf : p.fits w = true) (hr : ∀ r ∈ p.runs, 0 ≤ r ∧ r < 100) : Txt.split p.text (" " : Str) = p.words := by
  rw [← Pl.join_eq hf]
  exact split_join (y := (" " : Str)) (s := 32) (S := []) sp_chars (by decide +kernel) (Pl.words_ne p) fun x hx => (Pl.no_blank p hr x hx).1
theorem join_many : ∀ (xs : List (List Nat)) (s : List Nat), xs.length ≤ (joinL s xs).length + 1 ∨ s = []
  | [], s => by simp
  | [x], s => by simp
  | x :: y :: r, s => by
    rcases join_many (y :: r) s with h | h
    · by_cases e : s = []
      · exact .inr e
      · left
        have : 1 ≤ s.length := by cases s with | nil => exact absurd rfl e | cons a b => simp
        show (x :: y :: r).length ≤ (x ++ (s ++ joinL s (y :: r))).length + 1
        rw [List.length_append, List.length_append, List.length_cons]
        omega
    · exact .inr h
theorem words_few {w : Nat} {p : Pl} (hf : p.fits w = true) : p.words.length ≤ p.text.length + 1 := by
  have h := join_many (p.words.map tl) (tl (" " : Str))
  rw [Pl.join_words p hf, List.length_map, ← str_len] at h
  rcases h with h | h
  · exact h
  · rw [sp_chars] at h
    cases h
theorem pure_read_plan {K : PySem.W.Frag} : ∀ vs H Q E, sp_read_plan K vs H Q E → t_read_plan K E { nx := fun _ H' => Q .non H', rt := Q } (start N_read_plan vs) H := by
  intro vs H Q E hyp
  match vs, hyp with
  | [lv, wv, tv], hyp =>
    obtain ⟨l, ls, w, pl, rfl, hl, g, rfl, w2, w6, rfl, fit, pm, k⟩ := hyp
    have rl := pm.length_eq
    rw [rng_len] at rl
    have g4 := g.le
    have g1 := g.pos
    have dp := Pl.deep pl fit
    have hr : ∀ r ∈ pl.runs, 0 ≤ r ∧ r < 100 := fun r hr => by
      have := rng_in (pm.mem_iff.mp hr)
      constructor <;> omega
    have tlen := Pl.text_len pl fit hr
    have wf := words_few fit
    refine ⟨_, rfl, l, ls, rfl, hl, g, fun H1 s1 => ?_⟩
    refine ⟨_, rfl, _, rfl, by omega, by omega, fun H2 s2 => ?_⟩
    have s02 := s1.trans s2
    refine ⟨_, rfl, rfl, _, rfl, ?_⟩
    have ne : decide (V.str pl.text = V.str "") = false := decide_eq_false fun z => by
      injection z with z
      have := Pl.join_eq fit
      obtain ⟨w0, r0, ew, _⟩ := Pl.first hr
      have sw := split_words fit hr
      rw [z, ew] at sw
      have e0 : Txt.split ("" : Str) (" " : Str) = [("" : Str)] := by decide +kernel
      rw [e0] at sw
      injection sw with sw1 sw2
      cases pl with
      | leaf n =>
        rw [Pl.words] at ew
        injection ew with ew1 ew2
        obtain ⟨h0, h1⟩ := hr n (by simp [Pl.runs])
        have en : n = ((n.toNat : Nat) : Int) := by omega
        rw [en] at ew1
        exact (num_ne (n := n.toNat) (by omega)).2.2 (by rw [ew1, ← sw1])
      | node ps =>
        rw [Pl.words] at ew
        injection ew with ew1 ew2
        rw [← ew1] at sw1
        exact absurd sw1 (by decide +kernel)
    rw [ne]
    refine ⟨_, rfl, ⟨_, rfl⟩, pl.text, " ", rfl, rfl, by decide +kernel, szle (by omega), fun lw hlw => ?_⟩
    rw [split_words fit hr] at *
    have s3 : Same H2 (upd H2 lw (.lst (pl.words.map V.str))) := Rs.Same.new hlw
    have elw : upd H2 lw (.lst (pl.words.map V.str)) lw = some _ := upd_same
    generalize upd H2 lw (.lst (pl.words.map V.str)) = H3 at s3 elw ⊢
    have s03 := s02.trans s3
    refine ⟨_, rfl, lw, pl.words, [], pl, 0, rfl, elw, by omega, rfl, by simp, by omega, Pl.fits_mono (by omega) pl fit, hr, fun t v H4 ht et hv s4 => ?_⟩
    have s04 := s03.trans s4
    refine ⟨t, _, rfl, SqT.of et, rfl, _, _, rfl, _, _, rfl, rfl, ?_⟩
    refine ⟨_, rfl, _, rfl, lenL (s4 _ _ elw) rfl ⟨_, _, rfl, rfl, _, rfl, ?_⟩⟩
    have e1 : decide (((0 + pl.words.length : Nat) : Int) < (((pl.words.map V.str).length : Nat) : Int)) = false := decide_eq_false (by rw [List.length_map]; omega)
    rw [e1]
    refine ⟨_, rfl, _, rfl, _, rfl, l, ls, w, pl, rfl, s04 _ _ hl, g, rfl, w2, w6, hv, fit, pm, fun H5 s5 => ?_⟩
    exact ⟨_, rfl, k v H5 (PlR.st _ _ _ _ (TupLe.same s5) hv) (s04.trans s5)⟩
abbrev N_written_order : List Str := ["kinds", "order", "column", "way"]
abbrev P_written_order : List Str := ["kinds", "order"]
open _root_.TL
/-- a column with its way, as a text -/
def partS (t : Nat × Bool) : Str := (numS t.1 ++ (" " : Str)) ++ wayS t.2
def ordS (o : Ord) : Str := Txt.join (", " : Str) (o.map partS)
def sp_written_order (K : PySem.W.Frag) : Sp := fun vs H Q E => match vs with
  | [kv, ov] => ∃ ks o lo, KindsAt H kv ks ∧ GoodKinds ks ∧ ov = .ref lo ∧ Lst TurnAt H lo o ∧ GoodOrd ks o ∧ ∀ H', Same H H' → Q (.str (ordS o)) H'
  | _ => False
def t_written_order (K : PySem.W.Frag) (E : XK) : TS := (tSeq (tDrop (tCall (sp_need_kinds K) [] E (tCons (tVar 0) tNil)))
  (tSeq (tDrop (tCall (sp_need_order K) [] E (tCons (tVar 0) (tCons (tVar 1) tNil))))
   (tRet (tM1 (xJoin K) (tC (.str ", ")) (tLc (iList K (tVar 1)) (gTup K 2 (gCons (gName 2) (gCons (gName 3) gNil))) tYes (tOp xAddS (tOpC xAddS (tCB1 xStr (tVar 2)) (.str " ")) (tVar 3)) [2, 3])))))
theorem part_len {t : Nat × Bool} (h : t.1 < 100) : (numS t.1).length ≤ 2 ∧ (numS t.1 ++ (" " : Str)).length ≤ 3 ∧ (partS t).length ≤ 7 := by
  have a := (num_facts h).1
  have b : (numS t.1 ++ (" " : Str)).length = (numS t.1).length + 1 := by
    rw [str_len, tl_append, List.length_append, ← str_len]
    rfl
  have w : (wayS t.2).length ≤ 4 := by cases t.2 <;> decide +kernel
  have c : (partS t).length = (numS t.1 ++ (" " : Str)).length + (wayS t.2).length := by
    unfold partS
    rw [str_len, tl_append (numS t.1 ++ (" " : Str)), List.length_append, ← str_len, ← str_len]
  omega
theorem pure_written_order {K : PySem.W.Frag} : ∀ vs H Q E, sp_written_order K vs H Q E → t_written_order K E { nx := fun _ H' => Q .non H', rt := Q } (start N_written_order vs) H := by
  intro vs H Q E hyp
  match vs, hyp with
  | [kv, ov], hyp =>
    obtain ⟨ks, o, lo, hk, gk, rfl, Lo, go, k⟩ := hyp
    have hol := go.len gk.le
    have hks := gk.le
    refine ⟨_, rfl, ks, hk, gk, fun H1 s1 => ?_⟩
    refine ⟨_, rfl, _, rfl, ks, o, hk.mono (TupLe.same s1), ⟨lo, rfl, Lo.same TurnAt.st s1⟩, go, by omega, fun H2 s2 => ?_⟩
    have s02 := s1.trans s2
    obtain ⟨tv, eo, po⟩ := Lo.same TurnAt.st s02
    refine ⟨⟨_, rfl⟩, _, rfl, lo, rfl, ⟨_, SqL.of eo⟩, fun D hD => ?_⟩
    refine lcm_list (S := StrAt) (fun t : Nat × Bool => some (partS t)) StrAt.st eo po hD ?_ (by omega) ?_
    · intro j v t H' ht hj r s skip put
      obtain ⟨a, rfl, ea⟩ := r
      have hc := go.col t (List.mem_of_getElem? ht)
      obtain ⟨l1, l2, l3⟩ := part_len (t := t) (by omega)
      have w : (wayS t.2).length ≤ 4 := by cases t.2 <;> decide +kernel
      have l1b : (" " : Str).length = 1 := by decide +kernel
      refine ⟨a, _, rfl, SqT.of (s _ _ ea), rfl, _, _, rfl, _, _, rfl, rfl, rfl, lc_yes ⟨_, rfl, (t.1 : Int), rfl, log_small (by omega) (by omega), _, _, rfl, rfl, szle (by have : (Str.ofString (toString ((t.1 : Nat) : Int))).length ≤ 2 := l1; omega), _, rfl, _, _, rfl, rfl, szle (by have : (Str.ofString (toString ((t.1 : Nat) : Int)) ++ (" " : Str)).length ≤ 3 := l2; omega), put H' _ _ (Same.refl _) rfl rfl⟩⟩
    · intro H3 L s3
      rw [fm_some] at L
      refine ⟨_, D, o.map partS, rfl, rfl, .inl (SqL.of (Lst.strs.mp L)), ?_, k H3 (s02.trans s3)⟩
      have e2 : (", " : Str).length = 2 := by decide +kernel
      have e3 : ((o.map partS).map (·.length)).sum ≤ o.length * 7 := by
        rw [List.map_map]
        exact sum_le fun t ht => (part_len (t := t) (by have := go.col t ht; omega)).2.2
      rw [e2, List.length_map]
      omega
abbrev N_read_order : List Str := ["kinds", "text", "found", "place", "part", "words", "number"]
abbrev P_read_order : List Str := ["kinds", "text"]
open _root_.TL
def sp_read_order (K : PySem.W.Frag) : Sp := fun vs H Q E => match vs with
  | [kv, tv] => ∃ ks o, KindsAt H kv ks ∧ GoodKinds ks ∧ tv = .str (ordS o) ∧ GoodOrd ks o ∧ ∀ l H', H l = none → Lst TurnAt H' l o → Same H H' → Q (.ref l) H'
  | _ => False
def t_read_order (K : PySem.W.Frag) (E : XK) : TS := (tSeq (tDrop (tCall (sp_need_kinds K) [] E (tCons (tVar 0) tNil)))
  (tSeq (tAsg (tLst tNil) (gName 2))
   (tSeq (tFor (iEnum K (tCons (tM1 xSplit (tVar 1) (tC (.str ", "))) tNil)) (gTup K 2 (gCons (gName 3) (gCons (gName 4) gNil))) 
      (tSeq (tAsg (tM1 xSplit (tVar 4) (tC (.str " "))) (gName 5))
      (tSeq (tAsg (tCall (sp_number_of K) [] E (tCons (tOpC (rIxL K) (tVar 5) (.int 0)) tNil)) (gName 6))
       (tSeq (tIfS (tOr (tTest (tOpC rNe (tCB1 (xLen K) (tVar 5)) (.int 2))) (tOr (tTest (tOpC rIsN (tVar 6) .non)) (tTest (tOp (rIn K true) (tOpC (rIxL K) (tVar 5) (.int 1)) (tTup (tConsC (.str "up") (tConsC (.str "down") tNil))))))) tNever tNext)
        (tDrop (tBM K "list" rAppend (tVar 2) (tCons (tTup (tCons (tVar 6) (tCons (tOpC (rIxL K) (tVar 5) (.int 1)) tNil))) tNil)))))))
    (tSeq (tDrop (tCall (sp_need_order K) [] E (tCons (tVar 0) (tCons (tVar 2) tNil))))
     (tRet (tVar 2))))))
theorem part_facts {c : Nat} (h : c < 100) (b : Bool) : Txt.split (partS (c, b)) (" " : Str) = [numS c, wayS b] ∧ 44 ∉ tl (partS (c, b)) := by
  have : ∀ c : Nat, c < 100 → ∀ b : Bool, Txt.split (partS (c, b)) (" " : Str) = [numS c, wayS b] ∧ 44 ∉ tl (partS (c, b)) := by decide +kernel
  exact this c h b
theorem split_ord {o : Ord} (hne : o ≠ []) (hcol : ∀ t ∈ o, t.1 < 100) : Txt.split (ordS o) (", " : Str) = o.map partS := by
  unfold ordS
  refine split_join (y := (", " : Str)) (s := 44) (S := [32]) (by decide +kernel) (by decide +kernel) (fun z => hne (List.map_eq_nil_iff.mp z)) fun p hp => ?_
  obtain ⟨t, ht, rfl⟩ := List.mem_map.mp hp
  exact (part_facts (hcol t ht) t.2).2
theorem ord_len {o : Ord} (hcol : ∀ t ∈ o, t.1 < 100) (h : o.length ≤ 4) : (ordS o).length ≤ 100 := by
  unfold ordS
  rw [str_len, tl_join']
  have := joinL_len (s := tl (", " : Str)) ((o.map partS).map tl)
  have e1 : (((o.map partS).map tl).map List.length).sum ≤ o.length * 7 := by
    rw [List.map_map, List.map_map]
    exact sum_le (f := (List.length ∘ tl) ∘ partS) fun t ht => by
      have := (part_len (t := t) (hcol t ht)).2.2
      rw [str_len] at this
      exact this
  have e2 : (tl (", " : Str)).length = 2 := by decide +kernel
  rw [e2, List.length_map, List.length_map] at this
  omega
theorem pure_read_order {K : PySem.W.Frag} : ∀ vs H Q E, sp_read_order K vs H Q E → t_read_order K E { nx := fun _ H' => Q .non H', rt := Q } (start N_read_order vs) H := by
  intro vs H Q E hyp
  match vs, hyp with
  | [kv, tv], hyp =>
    obtain ⟨ks, o, hk, gk, rfl, go, k⟩ := hyp
    have hol := go.len gk.le
    have hks := gk.le
    have hc : ∀ t ∈ o, t.1 < 100 := fun t ht => by have := go.col t ht; omega
    have olen := ord_len hc hol
    refine ⟨_, rfl, ks, hk, gk, fun H1 s1 => ?_⟩
    refine ⟨sz0, fun f hf => ?_⟩
    have s2 : Same H1 (upd H1 f (.lst [])) := Rs.Same.new hf
    have ef : upd H1 f (.lst []) f = some (.lst []) := upd_same
    generalize upd H1 f (.lst []) = H2 at s2 ef ⊢
    have s02 := s1.trans s2
    have hf0 : H f = none := s1.free hf
    refine ⟨_, rfl, ⟨_, rfl⟩, ordS o, ", ", rfl, rfl, by decide +kernel, szle (by omega), fun lp hlp => ?_⟩
    rw [split_ord go.ne hc]
    have s3 : Same H2 (upd H2 lp (.lst ((o.map partS).map V.str))) := Rs.Same.new hlp
    have elp : upd H2 lp (.lst ((o.map partS).map V.str)) lp = some _ := upd_same
    have ef3 := s3 _ _ ef
    generalize upd H2 lp (.lst ((o.map partS).map V.str)) = H3 at s3 elp ef3 ⊢
    have s03 := s02.trans s3
    refine ⟨lp, _, rfl, SqL.of elp, ?_⟩
    refine for_it (walk_enum (K := K) (a := lp) (xs := (o.map partS).map V.str)) (fun i σ H' => ∃ x3 x4 x5 x6, σ = [some kv, some (.str (ordS o)), some (.ref f), x3, x4, x5, x6] ∧ Lst TurnAt H' f (o.take i) ∧ Same H H' ∧ H' lp = some (.lst ((o.map partS).map V.str))) ⟨none, none, none, none, rfl, ⟨[], ef3, .nil⟩, s03, elp⟩ ?_ ?_ ?_
    · rintro i σ H' _ ⟨_, _, _, _, _, _, _, e⟩
      exact SqL.of e
    · rintro i x σ H4 H5 hi ⟨x3, x4, x5, x6, rfl, ⟨fv, ef4, pf⟩, s4, elp4⟩ ⟨T, x1, w, rfl, hT, rfl, hx1, hw⟩
      cases hx1
      have hw : ((o.map partS).map V.str)[i]? = some w := hw
      rw [List.getElem?_map, List.getElem?_map] at hw
      obtain ⟨pw, hpw, rfl⟩ := Option.map_eq_some_iff.mp hw
      obtain ⟨t, ht, rfl⟩ := Option.map_eq_some_iff.mp hpw
      have htc := hc t (List.mem_of_getElem? ht)
      have hil := (List.getElem?_eq_some_iff.mp ht).1
      have lf := pf.length
      rw [List.length_take] at lf
      have s5 : Same H4 (upd H4 T (.tup [.int (i : Nat), .str (partS t)])) := Rs.Same.new hT
      refine ⟨T, _, rfl, SqT.of upd_same, rfl, _, _, rfl, _, _, rfl, rfl, ?_⟩
      have pl := (part_len (t := t) htc).2.2
      refine ⟨_, rfl, ⟨_, rfl⟩, partS t, " ", rfl, rfl, by decide +kernel, szle (by omega), fun lw hlw => ?_⟩
      have sp := (part_facts htc t.2).1
      have sp : Txt.split (partS t) (" " : Str) = [numS t.1, wayS t.2] := sp
      rw [sp]
      have s6 : Same (upd H4 T (.tup [.int (i : Nat), .str (partS t)])) (upd (upd H4 T (.tup [.int (i : Nat), .str (partS t)])) lw (.lst ([numS t.1, wayS t.2].map V.str))) := Rs.Same.new hlw
      have elw : upd (upd H4 T (.tup [.int (i : Nat), .str (partS t)])) lw (.lst ([numS t.1, wayS t.2].map V.str)) lw = some (.lst [.str (numS t.1), .str (wayS t.2)]) := upd_same
      have s46 := s5.trans s6
      generalize upd (upd H4 T (.tup [.int (i : Nat), .str (partS t)])) lw (.lst ([numS t.1, wayS t.2].map V.str)) = H6 at s6 elw s46 ⊢
      refine ⟨_, rfl, ixL elw (j := 0) rfl rfl ⟨numS t.1, rfl, by have := (num_facts htc).1; omega, fun v H7 hv s7 => ?_⟩⟩
      rw [num_of_num htc] at hv
      have hv : v = .int (t.1 : Int) := hv
      subst hv
      have elw7 := s7 _ _ elw
      refine ⟨_, rfl, lenL elw7 rfl ⟨rfl, _, rfl, ?_⟩⟩
      have e2 : (!decide (V.int (([V.str (numS t.1), .str (wayS t.2)].length : Nat) : Int) = V.int 2)) = false := rfl
      rw [e2]
      refine ⟨_, rfl, rfl, _, rfl, ?_⟩
      refine ⟨_, rfl, ixL elw7 (j := 1) rfl rfl ⟨szle (by show 2 ≤ 100000; decide), fun tw htw => ⟨tw, _, rfl, .inr (SqT.of upd_same), rfl, rfl, _, rfl, ?_⟩⟩⟩
      have e3 : inV (.str (wayS t.2)) [.str "up", .str "down"] = true := by
        cases t.2 <;> decide +kernel
      rw [if_pos rfl, e3]
      have s8 := Rs.Same.new (o := .tup [.str "up", .str "down"]) htw
      have s48 := (s46.trans s7).trans s8
      have ef8 := s48 _ _ ef4
      refine ⟨_, rfl, .inl ⟨rfl, _, SqL.of ef8⟩, _, rfl, _, rfl, ixL (s8 _ _ elw7) (j := 1) rfl rfl ⟨szle (by show 2 ≤ 100000; decide), fun tt htt => ?_⟩⟩
      have s9 : ∀ u, Same (upd H7 tw (.tup [.str "up", .str "down"])) (upd (upd H7 tw (.tup [.str "up", .str "down"])) tt u) := fun u => Rs.Same.new htt
      have s49 := s48.trans (s9 (.tup [.int (t.1 : Int), .str (wayS t.2)]))
      have ef9 := s49 _ _ ef4
      have t10 : TupLe (upd (upd H7 tw (.tup [.str "up", .str "down"])) tt (.tup [.int (t.1 : Int), .str (wayS t.2)])) (upd (upd (upd H7 tw (.tup [.str "up", .str "down"])) tt (.tup [.int (t.1 : Int), .str (wayS t.2)])) f (.lst (fv ++ [.ref tt]))) := (TupLe.refl _).list ef9
      have nflp : lp ≠ f := by
        intro z
        rw [z] at elp4
        rw [ef4] at elp4
        injection elp4 with z1
        injection z1 with z1
        subst z1
        rw [List.length_map, List.length_map] at lf
        omega
      refine ⟨_, _, _, rfl, rfl, ef9, szlt (by omega), _, _, _, _, rfl, ⟨_, upd_same, ?_⟩, Rs.Same.mut (s4.trans s49) hf0, up (s49 _ _ elp4) nflp⟩
      rw [List.take_succ, ht]
      exact P2.app (Paired.tl TurnAt.st ((TupLe.same s49).trans t10) pf) (P2.one (TurnAt.st _ _ _ _ t10 ⟨tt, rfl, upd_same⟩))
    · rintro σ H4 ⟨x3, x4, x5, x6, rfl, Lf, s4, _⟩
      rw [List.take_of_length_le (by simp)] at Lf
      refine ⟨_, rfl, _, rfl, ks, o, hk.mono (TupLe.same s4), ⟨f, rfl, Lf⟩, go, by omega, fun H5 s5 => ?_⟩
      exact ⟨_, rfl, k f H5 hf0 (Lf.same TurnAt.st s5) (s4.trans s5)⟩
end Rs

namespace Rs
open PySem PySem.Spec PyProof.Rows L2
abbrev N_law_lengths : List Str := ["_law_box", "_law_most", "_law_found", "_law_k", "_law_some"]
abbrev P_law_lengths : List Str := ["_law_box", "_law_most"]
def sp_law_lengths (K : PySem.W.Frag) : Sp := fun vs H Q E => match vs with
  | [b, m] => ∃ a l n, b = .ref a ∧ m = .int n ∧ 1 ≤ n ∧ n ≤ 40 ∧ Box H a l ∧ ∀ f (ls : List Int) H', H f = none → H' f = some (.lst (ls.map V.int)) → GoodLens ls → ls.length ≤ n → Box H' a l → But [a, l] H H' → Q (.ref f) H'
  | _ => False
def t_law_lengths (K : PySem.W.Frag) (E : XK) : TS := (tSeq (tAsg (tLst tNil) (gName 2))
  (tSeq (tFor (iRng1 (tCons (tOpD xAdd (.int 1) (tCall (sp_law_take K) [] E (tCons (tVar 0) (tCons (tVar 1) tNil)))) tNil)) (gName 3) 
     (tSeq (tAsg (tLst (tCons (tOpD xAdd (.int 1) (tCall (sp_law_take K) [] E (tCons (tVar 0) (tConsC (.int 9) tNil)))) (tCons (tOpD xAdd (.int 1) (tCall (sp_law_take K) [] E (tCons (tVar 0) (tConsC (.int 2) tNil)))) (tCons (tOpC xAdd (tVar 3) (.int 1)) (tCons (tOpD xAdd (.int 1) (tCall (sp_law_take K) [] E (tCons (tVar 0) (tCons (tOpC xPow (tC (.int 10)) (.int 6)) tNil)))) (tCons (tOpC xPow (tC (.int 10)) (.int 6)) tNil)))))) (gName 4))
     (tDrop (tBM K "list" rAppend (tVar 2) (tCons (tOp (rIxL K) (tVar 4) (tOp (rIxL K) (tLst (tConsC (.int 0) (tConsC (.int 0) (tConsC (.int 1) (tConsC (.int 2) (tConsC (.int 3) (tConsC (.int 4) tNil))))))) (tCall (sp_law_take K) [] E (tCons (tVar 0) (tConsC (.int 6) tNil))))) tNil)))))
   (tRet (tVar 2))))
theorem pure_law_lengths {K : PySem.W.Frag} : ∀ vs H Q E, sp_law_lengths K vs H Q E → t_law_lengths K E { nx := fun _ H' => Q .non H', rt := Q } (start N_law_lengths vs) H := by
  intro vs H Q E hyp
  match vs, hyp with
  | [b, m], hyp =>
    obtain ⟨a, l, n, rfl, rfl, n1, n2, B, k⟩ := hyp
    obtain ⟨ns, st, ha, hl, _⟩ := B.ex
    refine ⟨sz0, fun f hf => ?_⟩
    have fa := (ne_of_none ha hf).symm
    have fl := (ne_of_none hl hf).symm
    refine ⟨_, rfl, _, rfl, a, l, _, rfl, rfl, by omega, by omega, B.same (Rs.Same.new hf), fun r H1 r0 r1 B1 k1 => ⟨_, _, rfl, rfl, _, rfl, by omega, by omega, ?_⟩⟩
    have kk : But [a, l] H H1 := (But.same (Rs.Same.new hf)).trans k1
    have ef := k1 _ _ upd_same (nn fa fl)
    refine for_range (lo := 0) (n := (1 + r).toNat) (fun i σ H' => ∃ (ls : List Int) (x3 x4 : Option V), σ = [some (.ref a), some (.int n), some (.ref f), x3, x4] ∧ H' f = some (.lst (ls.map V.int)) ∧ ls.length = i ∧ (∀ x ∈ ls, 1 ≤ x ∧ x ≤ 1000000) ∧ Box H' a l ∧ But [a, l] H H') ⟨[], none, none, rfl, ef, rfl, by simp, B1, kk⟩ ?_ ?_
    · rintro i σ H2 hi ⟨ls, x3, x4, rfl, ef2, hlen, hall, B2, k2⟩
      refine ⟨_, rfl, a, l, _, rfl, rfl, by decide, by decide, B2, fun g1 H3 g10 g11 B3 k3 => ⟨_, _, rfl, rfl, ?_⟩⟩
      refine ⟨_, rfl, a, l, _, rfl, rfl, by decide, by decide, B3, fun g2 H4 g20 g21 B4 k4 => ⟨_, _, rfl, rfl, ?_⟩⟩
      refine ⟨_, rfl, _, _, rfl, rfl, ?_⟩
      refine ⟨_, rfl, _, _, rfl, rfl, ⟨by decide, by decide, by decide⟩, a, l, _, rfl, rfl, by decide, by decide, B4, fun g3 H5 g30 g31 B5 k5 => ⟨_, _, rfl, rfl, ?_⟩⟩
      refine ⟨_, _, rfl, rfl, ⟨by decide, by decide, by decide⟩, szle (by show 5 ≤ 100000; decide), fun s hs => ?_⟩
      have k25 := (k3.trans k4).trans k5
      have s6 : Same H5 (upd H5 s (.lst [.int (1 + g1), .int (1 + g2), .int (0 + (i : Int) + 1), .int (1 + g3), .int (10 ^ (6 : Int).toNat)])) := Rs.Same.new hs
      have es : upd H5 s (.lst [.int (1 + g1), .int (1 + g2), .int (0 + (i : Int) + 1), .int (1 + g3), .int (10 ^ (6 : Int).toNat)]) s = some _ := upd_same
      generalize upd H5 s (.lst [.int (1 + g1), .int (1 + g2), .int (0 + (i : Int) + 1), .int (1 + g3), .int (10 ^ (6 : Int).toNat)]) = H6 at s6 es ⊢
      have B6 := B5.same s6
      have k26 := k25.trans (But.same s6)
      obtain ⟨_, _, ha5, hl5, _⟩ := B5.ex
      have sa := (ne_of_none ha5 hs).symm
      have sl := (ne_of_none hl5 hs).symm
      have ef6 := k26 _ _ ef2 (nn fa fl)
      refine ⟨_, rfl, .inl ⟨rfl, _, SqL.of ef6⟩, _, rfl, szle (by show 6 ≤ 100000; decide), fun q hq => ?_⟩
      have s7 : Same H6 (upd H6 q (.lst [.int 0, .int 0, .int 1, .int 2, .int 3, .int 4])) := Rs.Same.new hq
      have eq : upd H6 q (.lst [.int 0, .int 0, .int 1, .int 2, .int 3, .int 4]) q = some _ := upd_same
      generalize upd H6 q (.lst [.int 0, .int 0, .int 1, .int 2, .int 3, .int 4]) = H7 at s7 eq ⊢
      have B7 := B6.same s7
      obtain ⟨_, _, ha6, hl6, _⟩ := B6.ex
      have qa := (ne_of_none ha6 hq).symm
      have ql := (ne_of_none hl6 hq).symm
      refine ⟨_, rfl, a, l, _, rfl, rfl, by decide, by decide, B7, fun g4 H8 g40 g41 B8 k8 => ?_⟩
      have eq8 := k8 _ _ eq (nn qa ql)
      have es8 := k8 _ _ (s7 _ _ es) (nn sa sl)
      have k28 := (k26.trans (But.same s7)).trans k8
      have ef8 := k28 _ _ ef2 (nn fa fl)
      have fin : ∀ (i1 : Nat) (x : Int), ([V.int 0, .int 0, .int 1, .int 2, .int 3, .int 4] : List V)[g4.toNat]? = some (.int (i1 : Int)) → ([.int (1 + g1), .int (1 + g2), .int (0 + (i : Int) + 1), .int (1 + g3), .int (10 ^ (6 : Int).toNat)] : List V)[i1]? = some (.int x) → 1 ≤ x → x ≤ 1000000 →
          rIxL K (.ref q) (.int g4) H8 (fun w H9 => rIxL K (.ref s) w H9 (fun v H10 => rAppend (.ref f) [v] H10 fun _ H11 => ∃ (ls : List Int) (x3 x4 : Option V), [some (V.ref a), some (V.int n), some (V.ref f), some (V.int (0 + (i : Int))), some (V.ref s)] = [some (V.ref a), some (V.int n), some (V.ref f), x3, x4] ∧ H11 f = some (.lst (ls.map V.int)) ∧ ls.length = i + 1 ∧ (∀ x ∈ ls, 1 ≤ x ∧ x ≤ 1000000) ∧ Box H11 a l ∧ But [a, l] H H11)) := fun i1 x e1 e2 x1 x2 => by
        refine ixL eq8 (j := g4.toNat) (by omega) e1 (ixL es8 (j := i1) rfl e2 ⟨_, _, _, rfl, rfl, ef8, szlt (by rw [List.length_map]; omega), ls ++ [x], _, _, rfl, by rw [upd_same, List.map_append] <;> rfl, by simp [hlen], fun y hy => ?_, B8.keep (fun o e => up e fa.symm) (fun o e => up e fl.symm), (k2.trans k28).mut hf⟩)
        rcases List.mem_append.mp hy with hy | hy
        · exact hall y hy
        · rw [List.mem_singleton.mp hy]
          exact ⟨x1, x2⟩
      have pick : g4 = 0 ∨ g4 = 1 ∨ g4 = 2 ∨ g4 = 3 ∨ g4 = 4 ∨ g4 = 5 := by omega
      have p10 : ((10 : Int) ^ (6 : Int).toNat) = 1000000 := by decide
      rcases pick with e | e | e | e | e | e
      · subst e; exact fin 0 _ rfl rfl (by omega) (by omega)
      · subst e; exact fin 0 _ rfl rfl (by omega) (by omega)
      · subst e; exact fin 1 _ rfl rfl (by omega) (by omega)
      · subst e; exact fin 2 _ rfl rfl (by omega) (by omega)
      · subst e; exact fin 3 _ rfl rfl (by omega) (by omega)
      · subst e; exact fin 4 _ rfl rfl (by rw [p10]; decide) (by rw [p10]; decide)
    · rintro σ H2 ⟨ls, x3, x4, rfl, ef2, hlen, hall, B2, k2⟩
      exact ⟨_, rfl, k f ls H2 hf ef2 ⟨by omega, by omega, hall⟩ (by omega) B2 k2⟩
abbrev N_law_plan : List Str := ["_law_box", "_law_runs", "_law_ways", "_law_left", "_law_many", "_law_some", "_law_k"]
abbrev P_law_plan : List Str := ["_law_box", "_law_runs", "_law_ways"]
def sp_law_plan (K : PySem.W.Frag) : Sp := fun vs H Q E => match vs with
  | [b, rv, wv] => ∃ (a l lr : Addr) (ids : List Int) (w : Nat), b = .ref a ∧ rv = .ref lr ∧ H lr = some (.lst (ids.map V.int)) ∧ wv = .int (w : Int) ∧ 2 ≤ w ∧ w ≤ 6 ∧ 1 ≤ ids.length ∧ ids.length ≤ 40 ∧ Box H a l ∧
    ∀ v (pl : Pl) H', PlR H' v pl → pl.fits w = true → pl.runs.Perm ids → Box H' a l → But [a, l] H H' → Q v H'
  | _ => False
def t_law_plan (K : PySem.W.Frag) (E : XK) : TS := (tSeq (tAsg (tCB1 (xList K) (tVar 1)) (gName 3))
  (tSeq (tWhile (tTest (tOpC xGt (tCB1 (xLen K) (tVar 3)) (.int 1))) 
     (tSeq (tAsg (tCB xMin2 (tCons (tCB1 (xLen K) (tVar 3)) (tCons (tOpD xAdd (.int 2) (tCall (sp_law_take K) [] E (tCons (tVar 0) (tCons (tOpC xSub (tVar 2) (.int 1)) tNil)))) tNil))) (gName 4))
     (tSeq (tAsg (tLc (iRng1 (tCons (tVar 4) tNil)) (gName 6) tYes (tBM K "list" rPopAt (tVar 3) (tCons (tCall (sp_law_take K) [] E0 (tCons (tVar 0) (tCons (tCB1 (xLen K) (tVar 3)) tNil))) tNil)) [6]) (gName 5))
      (tDrop (tBM K "list" xInsert (tVar 3) (tCons (tCall (sp_law_take K) [] E (tCons (tVar 0) (tCons (tOpC xAdd (tCB1 (xLen K) (tVar 3)) (.int 1)) tNil))) (tCons (tCB1 (xTuple K) (tVar 5)) tNil)))))))
   (tRet (tOpC (rIxL K) (tVar 3) (.int 0)))))
theorem leaf_paired {H : Hp} : ∀ ids : List Int, Paired (PlR H) (ids.map V.int) (ids.map Pl.leaf)
  | [] => .nil
  | x :: ids => .cons (.leaf x) (leaf_paired ids)
theorem leaf_runs : ∀ ids : List Int, Pl.runsL (ids.map Pl.leaf) = ids
  | [] => rfl
  | x :: ids => by rw [List.map_cons, Pl.runsL, leaf_runs ids, Pl.runs]; rfl
theorem runsL_app (a b : List Pl) : Pl.runsL (a ++ b) = Pl.runsL a ++ Pl.runsL b := by
  rw [Pl.runsL_map, Pl.runsL_map, Pl.runsL_map, List.map_append, List.flatten_append]
theorem runsL_perm {a b : List Pl} (p : a.Perm b) : (Pl.runsL a).Perm (Pl.runsL b) := by
  rw [Pl.runsL_map, Pl.runsL_map]
  exact (p.map _).flatten
theorem erase_perm {α : Type} : ∀ {l : List α} {i : Nat} (h : i < l.length), (l[i] :: l.eraseIdx i).Perm l
  | [], _, h => by simp at h
  | x :: l, 0, _ => .refl _
  | x :: l, i + 1, h => by
    have h' : i < l.length := by simpa using h
    show (l[i] :: x :: l.eraseIdx i).Perm (x :: l)
    exact (List.Perm.swap ..).trans ((erase_perm h').cons x)
theorem pure_law_plan {K : PySem.W.Frag} : ∀ vs H Q E, sp_law_plan K vs H Q E → t_law_plan K E { nx := fun _ H' => Q .non H', rt := Q } (start N_law_plan vs) H := by
  intro vs H Q E hyp
  match vs, hyp with
  | [b, rv, wv], hyp =>
    obtain ⟨a, l, lr, ids, w, rfl, rfl, hlr, rfl, w2, w6, i1, i2, B, k⟩ := hyp
    obtain ⟨ns, st, ha, hl, _⟩ := B.ex
    refine ⟨_, rfl, lr, _, rfl, .inl (SqL.of hlr), fun f hf => ?_⟩
    have fa := (ne_of_none ha hf).symm
    have fl := (ne_of_none hl hf).symm
    refine ⟨fun m σ H' => ∃ (vs : List V) (ps : List Pl) (x4 x5 x6 : Option V), m = ps.length ∧ σ = [some (.ref a), some (.ref lr), some (.int (w : Int)), some (.ref f), x4, x5, x6] ∧ H' f = some (.lst vs) ∧ Paired (PlR H') vs ps ∧ 1 ≤ ps.length ∧ ps.length ≤ 40 ∧ (∀ p ∈ ps, p.fits w = true) ∧ (Pl.runsL ps).Perm ids ∧ Box H' a l ∧ But [a, l] H H',
      ⟨_, _, ids.map Pl.leaf, none, none, none, rfl, rfl, upd_same, leaf_paired ids, by simpa using i1, by simpa using i2, fun p hp => ?_, by rw [leaf_runs], B.same (Rs.Same.new hf), But.same (Rs.Same.new hf)⟩, ?_⟩
    · obtain ⟨x, _, rfl⟩ := List.mem_map.mp hp
      rw [Pl.fits]
    rintro m σ H1 ⟨vs, ps, x4, x5, x6, rfl, rfl, ef, pp, p1, p40, fit, pm, B1, k1⟩
    have lp := pp.length
    refine ⟨_, rfl, lenL ef rfl ⟨_, _, rfl, rfl, _, rfl, ?_⟩⟩
    by_cases hgt : 1 < ps.length
    · rw [decide_eq_true (show (1 : Int) < ((vs.length : Nat) : Int) by omega)]
      refine ⟨fun σ H' => ∃ (vs : List V) (ps' : List Pl) (x4 x5 x6 : Option V), ps'.length < ps.length ∧ σ = [some (.ref a), some (.ref lr), some (.int (w : Int)), some (.ref f), x4, x5, x6] ∧ H' f = some (.lst vs) ∧ Paired (PlR H') vs ps' ∧ 1 ≤ ps'.length ∧ ps'.length ≤ 40 ∧ (∀ p ∈ ps', p.fits w = true) ∧ (Pl.runsL ps').Perm ids ∧ Box H' a l ∧ But [a, l] H H', ?_, ?_⟩
      · rintro σ H' ⟨vs', ps', x4, x5, x6, q1, q2⟩
        exact ⟨_, q1, vs', ps', x4, x5, x6, rfl, q2⟩
      refine ⟨_, rfl, lenL ef rfl ⟨_, rfl, _, rfl, _, _, rfl, rfl, a, l, _, rfl, rfl, by omega, by omega, B1, fun r H2 r0 r1 B2 k2 => ⟨_, _, rfl, rfl, _, _, rfl, ?_⟩⟩⟩
      obtain ⟨mn, emn, m2, mw, mle⟩ : ∃ mn : Nat, (if 2 + r < ((vs.length : Nat) : Int) then 2 + r else ((vs.length : Nat) : Int)) = (mn : Int) ∧ 2 ≤ mn ∧ mn ≤ w ∧ mn ≤ ps.length := by
        split
        · exact ⟨(2 + r).toNat, by omega, by omega, by omega, by omega⟩
        · exact ⟨ps.length, by omega, by omega, by omega, by omega⟩
      rw [emn]
      have ef2 := k2 _ _ ef (nn fa fl)
      have pp2 := Paired.tl PlR.st (B1.tup k2) pp
      have k02 := k1.trans k2
      refine ⟨_, rfl, _, rfl, by omega, by omega, fun D hD => ?_⟩
      obtain ⟨_, _, ha2, hl2, _⟩ := B2.ex
      have Da := (ne_of_none ha2 hD).symm
      have Dl := (ne_of_none hl2 hD).symm
      have Df := (ne_of_none ef2 hD).symm
      have hD0 : H D = none := none_of_but k02 hD (nn Da Dl)
      refine lc_range (lo := 0) (n := (mn : Int).toNat) (fun i H' => ∃ (vs : List V) (ps' : List Pl) (ws : List V) (qs : List Pl), H' f = some (.lst vs) ∧ Paired (PlR H') vs ps' ∧ H' D = some (.lst ws) ∧ Paired (PlR H') ws qs ∧ ps'.length + i = ps.length ∧ qs.length = i ∧ (∀ p ∈ ps', p.fits w = true) ∧ (∀ p ∈ qs, p.fits w = true) ∧ (Pl.runsL ps' ++ Pl.runsL qs).Perm ids ∧ Box H' a l ∧ But [a, l] H H')
        ⟨vs, ps, [], [], un ef2 hD, Paired.tl PlR.st (TupLe.new hD) pp2, upd_same, .nil, rfl, rfl, fit, by simp, by simpa [Pl.runsL] using pm, B2.same (Rs.Same.new hD), k02.new hD⟩ ?_ ?_
      · rintro i H3 hi ⟨vs3, ps3, ws3, qs3, ef3, pp3, eD3, qq3, l3, lq3, f3, g3, pm3, B3, k3⟩
        have lv3 := pp3.length
        have lw3 := qq3.length
        refine ⟨rfl, lc_yes ⟨_, rfl, .inl ⟨rfl, _, SqL.of ef3⟩, _, rfl, _, rfl, lenL ef3 rfl ⟨a, l, _, rfl, rfl, by omega, by omega, B3, fun g H4 g0 g1 B4 k4 => ?_⟩⟩⟩
        obtain ⟨j, rfl⟩ : ∃ j : Nat, g = (j : Int) := ⟨g.toNat, by omega⟩
        have hjv : j < vs3.length := by omega
        have ef4 := k4 _ _ ef3 (nn fa fl)
        have eD4 := k4 _ _ eD3 (nn Da Dl)
        have t4 := B3.tup k4
        have pp4 := Paired.tl PlR.st t4 pp3
        have qq4 := Paired.tl PlR.st t4 qq3
        obtain ⟨pj, hpj, rj⟩ := P2.get pp4 (List.getElem?_eq_getElem hjv)
        have hjp : j < ps3.length := by omega
        have epj : pj = ps3[j] := by rw [List.getElem?_eq_getElem hjp] at hpj; injection hpj with z; exact z.symm
        subst epj
        refine ⟨f, vs3, _, j, vs3[j], rfl, rfl, ef4, by omega, by omega, seqIx hjv, List.getElem?_eq_getElem hjv, ?_⟩
        have t5 : TupLe H4 (upd H4 f (.lst (vs3.eraseIdx j))) := (TupLe.refl _).list ef4
        have eD5 : upd H4 f (.lst (vs3.eraseIdx j)) D = some (.lst ws3) := up eD4 Df
        have t6 : TupLe (upd H4 f (.lst (vs3.eraseIdx j))) (upd (upd H4 f (.lst (vs3.eraseIdx j))) D (.lst (ws3 ++ [vs3[j]]))) := (TupLe.refl _).list eD5
        have t46 := t5.trans t6
        refine ⟨ws3, eD5, szlt (by omega), vs3.eraseIdx j, ps3.eraseIdx j, ws3 ++ [vs3[j]], qs3 ++ [ps3[j]], up upd_same Df.symm, Paired.tl PlR.st t46 (P2.erase j pp4), upd_same, Paired.tl PlR.st t46 (P2.app qq4 (P2.one rj)), by rw [List.length_eraseIdx_of_lt hjp]; omega, by simp [lq3], fun p hp => f3 p (List.mem_of_mem_eraseIdx hp), fun p hp => ?_, ?_, (B4.keep (fun o e => up e fa.symm) (fun o e => up e fl.symm)).keep (fun o e => up e Da.symm) (fun o e => up e Dl.symm), ((k3.trans k4).mut hf).mut hD0⟩
        · rcases List.mem_append.mp hp with hp | hp
          · exact g3 p hp
          · rw [List.mem_singleton.mp hp]
            exact f3 _ (List.getElem_mem hjp)
        · rw [← runsL_app] at pm3 ⊢
          refine List.Perm.trans (runsL_perm ?_) pm3
          have e1 : (ps3.eraseIdx j ++ (qs3 ++ [ps3[j]])).Perm (ps3[j] :: (ps3.eraseIdx j ++ qs3)) := by
            rw [← List.append_assoc]
            exact List.perm_append_comm
          exact e1.trans (List.Perm.append_right qs3 (erase_perm hjp))
      · rintro H3 ⟨vs3, ps3, ws3, qs3, ef3, pp3, eD3, qq3, l3, lq3, f3, g3, pm3, B3, k3⟩
        have lv3 := pp3.length
        have lw3 := qq3.length
        refine ⟨_, rfl, .inl ⟨rfl, _, SqL.of ef3⟩, _, rfl, _, rfl, lenL ef3 rfl ⟨_, _, rfl, rfl, a, l, _, rfl, rfl, by omega, by omega, B3, fun g H4 g0 g1 B4 k4 => ?_⟩⟩
        obtain ⟨j, rfl⟩ : ∃ j : Nat, g = (j : Int) := ⟨g.toNat, by omega⟩
        have ef4 := k4 _ _ ef3 (nn fa fl)
        have eD4 := k4 _ _ eD3 (nn Da Dl)
        have t4 := B3.tup k4
        have pp4 := Paired.tl PlR.st t4 pp3
        have qq4 := Paired.tl PlR.st t4 qq3
        refine ⟨_, rfl, D, ws3, rfl, .inl ⟨SqL.of eD4, fun t ht => ?_⟩⟩
        have s5 : Same H4 (upd H4 t (.tup ws3)) := Rs.Same.new ht
        have et : upd H4 t (.tup ws3) t = some (.tup ws3) := upd_same
        have k05 := ((k3.trans k4).new (o := .tup ws3) ht)
        generalize upd H4 t (.tup ws3) = H5 at s5 et k05 ⊢
        have ef5 := s5 _ _ ef4
        refine ⟨f, vs3, _, .ref t, rfl, rfl, ef5, szlt (by omega), by omega, by omega, ?_⟩
        have t6 : TupLe H5 (upd H5 f (.lst (vs3.take ((j : Int)).toNat ++ [V.ref t] ++ vs3.drop ((j : Int)).toNat))) := (TupLe.refl _).list ef5
        have t46 := (TupLe.same s5).trans t6
        have hj : (j : Int).toNat = j := by omega
        rw [hj] at t6 t46 ⊢
        have nodefit : (Pl.node qs3).fits w = true := by
          rw [Pl.fits, Pl.fitsL_all]
          simp only [Bool.and_eq_true, decide_eq_true_eq, List.all_eq_true]
          exact ⟨⟨by omega, by omega⟩, g3⟩
        have len : (ps3.take j ++ [Pl.node qs3] ++ ps3.drop j).length = ps3.length + 1 := by
          rw [List.length_append, List.length_append, List.length_take, List.length_drop, List.length_singleton]
          omega
        refine ⟨_, ps3.take j ++ [Pl.node qs3] ++ ps3.drop j, _, _, _, by omega, rfl, upd_same, P2.app (P2.app (Paired.tl PlR.st t46 (P2.take j pp4)) (P2.one (PlR.node (t6 _ _ et) (Paired.tl PlR.st t46 qq4)))) (Paired.tl PlR.st t46 (P2.drop j pp4)), by omega, by omega, fun p hp => ?_, ?_, (B4.same s5).keep (fun o e => up e fa.symm) (fun o e => up e fl.symm), k05.mut hf⟩
        · rcases List.mem_append.mp hp with hp | hp
          · rcases List.mem_append.mp hp with hp | hp
            · exact f3 p (List.mem_of_mem_take hp)
            · rw [List.mem_singleton.mp hp]
              exact nodefit
          · exact f3 p (List.mem_of_mem_drop hp)
        · refine List.Perm.trans ?_ pm3
          have e1 : (ps3.take j ++ [Pl.node qs3] ++ ps3.drop j).Perm (ps3 ++ [Pl.node qs3]) := by
            have : (ps3.take j ++ [Pl.node qs3] ++ ps3.drop j).Perm (ps3.take j ++ (ps3.drop j ++ [Pl.node qs3])) := by
              rw [List.append_assoc]
              exact List.Perm.append_left _ List.perm_append_comm
            rw [← List.append_assoc, List.take_append_drop] at this
            exact this
          have e2 := runsL_perm e1
          rw [runsL_app ps3] at e2
          have e3 : Pl.runsL [Pl.node qs3] = Pl.runsL qs3 := by
            rw [Pl.runsL, Pl.runsL, Pl.runs, List.append_nil]
          rw [e3] at e2
          exact e2
    · rw [decide_eq_false (show ¬ (1 : Int) < ((vs.length : Nat) : Int) by omega)]
      match ps, pp, p1, hgt, fit, pm with
      | [p], .cons (a := v) hp .nil, _, _, fit, pm =>
        refine ⟨_, rfl, ixL ef (j := 0) rfl rfl ?_⟩
        exact k v p H1 hp (fit p (by simp)) (by simpa [Pl.runsL] using pm) B1 k1
      | p :: q :: r, _, _, hgt, _, _ => exact absurd (by simp) hgt
abbrev N_law_text : List Str := ["_law_plan_here", "_law_found", "_law_part"]
abbrev P_law_text : List Str := ["_law_plan_here"]
def spr_law_text (K : PySem.W.Frag) (d : Nat) : Sp := fun vs H Q E => match vs with
  | [pv] => ∃ (pl : Pl), PlR H pv pl ∧ pl.depth < d ∧ pl.fits 40 = true ∧ (∀ r ∈ pl.runs, 0 ≤ r ∧ r < 100) ∧ pl.runs.length ≤ 1000 ∧ ∀ f H', H f = none → H' f = some (.lst (pl.words.map V.str)) → Same H H' → Q (.ref f) H'
  | _ => False
abbrev sp_law_text (K : PySem.W.Frag) : Sp := spr_law_text K 42
theorem no_law_text (K : PySem.W.Frag) : ∀ vs H Q E, ¬ spr_law_text K 0 vs H Q E := fun vs H Q E h => by
  unfold spr_law_text at h
  match vs, h with
  | [_], ⟨_, _, h1, _⟩ => omega
theorem len_law_text (K : PySem.W.Frag) : ∀ d vs H Q E, spr_law_text K d vs H Q E → vs.length = 1 := fun d vs H Q E h => by
  unfold spr_law_text at h
  match vs, h with
  | [_], _ => rfl
def t_law_text (K : PySem.W.Frag) (sp : Sp) (E : XK) : TS := (tSeq (tIfS (tNot (tB (tIsi K "tuple" (tVar 0)))) (tRet (tLst (tCons (tCB1 xStr (tVar 0)) tNil))) tNext)
  (tSeq (tAsg (tLst (tConsC (.str "(") tNil)) (gName 1))
   (tSeq (tFor (iTup K (tVar 0)) (gName 2) (tAsg (tOp rCat (tVar 1) (tCall sp [] E (tCons (tVar 2) tNil))) (gName 1)))
    (tRet (tOp rCat (tVar 1) (tLst (tConsC (.str ")") tNil)))))))
mutual
theorem Pl.words_len {w : Nat} : ∀ (p : Pl), p.fits w = true → p.words.length + 2 ≤ 3 * p.runs.length
  | .leaf n, _ => by simp [Pl.words, Pl.runs]
  | .node ps, h => by
    rw [Pl.fits] at h
    simp only [Bool.and_eq_true, decide_eq_true_eq] at h
    have ih := Pl.words_lenL ps h.2
    rw [Pl.words, Pl.runs, List.length_cons, List.length_append, List.length_singleton]
    omega
theorem Pl.words_lenL {w : Nat} : ∀ (ps : List Pl), Pl.fitsL w ps = true → (Pl.wordsL ps).length + 2 * ps.length ≤ 3 * (Pl.runsL ps).length
  | [], _ => by simp [Pl.wordsL, Pl.runsL]
  | p :: ps, h => by
    rw [Pl.fitsL] at h
    simp only [Bool.and_eq_true] at h
    have a := Pl.words_len p h.1
    have b := Pl.words_lenL ps h.2
    rw [Pl.wordsL, Pl.runsL, List.length_append, List.length_append, List.length_cons]
    omega
end
theorem pure_law_text {K : PySem.W.Frag} (d : Nat) : ∀ vs H Q E, spr_law_text K (d + 1) vs H Q E → t_law_text K (spr_law_text K d) E { nx := fun _ H' => Q .non H', rt := Q } (start N_law_text vs) H := by
  intro vs H Q E hyp
  unfold spr_law_text at hyp
  match vs, hyp with
  | [pv], hyp =>
    obtain ⟨pl, hp, hd, fit, hr, hn, k⟩ := hyp
    cases pl with
    | leaf n =>
      have e := PlR.unleaf hp
      subst e
      obtain ⟨h0, h1⟩ := hr n (by simp [Pl.runs])
      refine ⟨_, rfl, isi_go (t := "int") (b := false) (.base (.int n)) (by decide +kernel) ⟨_, rfl, _, rfl, n, rfl, log_small h0 h1, szle (by show 1 ≤ 100000; decide), fun f hf => ?_⟩⟩
      exact k f _ hf (by rw [upd_same, Pl.words] <;> rfl) (Rs.Same.new hf)
    | node ps =>
      obtain ⟨a, tv, rfl, et, pt⟩ := PlR.unnode hp
      have lt := pt.length
      have wl := Pl.words_len _ fit
      rw [Pl.depth] at hd
      rw [Pl.fits] at fit
      simp only [Bool.and_eq_true, decide_eq_true_eq] at fit
      have fl := fit.2
      rw [Pl.fitsL_all, List.all_eq_true] at fl
      rw [Pl.runs] at hr hn wl
      rw [Pl.words] at k wl
      refine ⟨_, rfl, isi_go (t := "tuple") (b := true) (tyT (SqT.of et)) (by decide +kernel) ⟨_, rfl, ?_⟩⟩
      refine ⟨szle (by show 1 ≤ 100000; decide), fun f hf => ?_⟩
      have wlen : ∀ j, (Pl.wordsL (ps.take j)).length ≤ (Pl.wordsL ps).length := fun j => by
        have e : Pl.wordsL ps = Pl.wordsL (ps.take j) ++ Pl.wordsL (ps.drop j) := by rw [← Pl.wordsL_app, List.take_append_drop]
        rw [e, List.length_append]
        omega
      have wll : (Pl.wordsL ps).length ≤ 3000 := by
        rw [List.length_cons, List.length_append, List.length_singleton] at wl
        omega
      refine ⟨_, rfl, a, rfl, ⟨_, SqT.of (un et hf)⟩, ?_⟩
      refine for_tup (K := K) (a := a) (xs := tv) (fun j σ H' => ∃ (f : Addr) (x2 : Option V), σ = [some (.ref a), some (.ref f), x2] ∧ H f = none ∧ H' f = some (.lst ((("(" : Str) :: Pl.wordsL (ps.take j)).map V.str)) ∧ Same H H') ⟨f, none, rfl, hf, upd_same, Rs.Same.new hf⟩ ?_ ?_ ?_
      · rintro j σ H' _ ⟨_, _, _, _, _, s⟩
        exact SqT.of (s _ _ et)
      · rintro j v σ H' hj ⟨f, x2, rfl, hf, ef, s⟩
        obtain ⟨p, hp, r⟩ := P2.get pt hj
        have pm := List.mem_of_getElem? hp
        have dl := Pl.depthL_le pm
        have sb := Pl.runs_sub pm
        have sbl := sb.length_le
        refine ⟨_, rfl, _, rfl, p, PlR.st _ _ _ _ (TupLe.same s) r, by omega, fl p pm, fun q hq => hr q (sb.subset hq), by omega, fun g H2 hg eg s2 => ?_⟩
        have tk : ps.take (j + 1) = ps.take j ++ [p] := by rw [List.take_succ, hp]; rfl
        have ewl : (Pl.wordsL (ps.take (j + 1))) = Pl.wordsL (ps.take j) ++ p.words := by rw [tk, Pl.wordsL_app, Pl.wordsL, Pl.wordsL, List.append_nil]
        have wj := wlen (j + 1)
        rw [ewl, List.length_append] at wj
        refine ⟨f, g, _, _, rfl, rfl, s2 _ _ ef, eg, szle (by rw [List.length_map, List.length_map, List.length_cons]; omega), fun q hq => ?_⟩
        refine ⟨q, some v, rfl, (s.trans s2).free hq, ?_, (s.trans s2).trans (Rs.Same.new hq)⟩
        rw [upd_same, ewl, List.map_cons, List.map_cons, List.map_append]
        rfl
      · rintro σ H' ⟨f, x2, rfl, hf, ef, s⟩
        rw [List.take_of_length_le (by omega)] at ef
        refine ⟨_, rfl, szle (by show 1 ≤ 100000; decide), fun g hg => ?_⟩
        have s2 : ∀ u, Same H' (upd H' g u) := fun u => Rs.Same.new hg
        refine ⟨f, g, _, _, rfl, rfl, s2 _ _ _ ef, upd_same, szle (by rw [List.length_map, List.length_cons, List.length_singleton]; omega), fun q hq => ?_⟩
        refine k q _ ((s.trans (s2 _)).free hq) ?_ ((s.trans (s2 _)).trans (Rs.Same.new hq))
        rw [upd_same, List.map_cons, List.map_cons, List.map_append]
        rfl
end Rs

namespace Rs
open PySem PySem.Spec PyProof.Rows L2
/-! ### merging the least ones moves the fewest rows -/
def insI (x : Int) : List Int → List Int
  | [] => [x]
  | y :: ys => if x ≤ y then x :: y :: ys else y :: insI x ys
def srtI : List Int → List Int
  | [] => []
  | x :: xs => insI x (srtI xs)
theorem insI_perm (x : Int) : ∀ ys, (insI x ys).Perm (x :: ys)
  | [] => .refl _
  | y :: ys => by
    unfold insI
    split
    · exact .refl _
    · exact ((insI_perm x ys).cons y).trans (List.Perm.swap ..)
theorem srtI_perm : ∀ xs, (srtI xs).Perm xs
  | [] => .refl _
  | x :: xs => (insI_perm x (srtI xs)).trans ((srtI_perm xs).cons x)
theorem insI_up {x : Int} : ∀ {ys : List Int}, ys.Pairwise (· ≤ ·) → (insI x ys).Pairwise (· ≤ ·)
  | [], _ => by simp [insI]
  | y :: ys, h => by
    unfold insI
    obtain ⟨h1, h2⟩ := List.pairwise_cons.mp h
    split
    · rename_i c
      refine List.pairwise_cons.mpr ⟨fun z hz => ?_, h⟩
      rcases List.mem_cons.mp hz with e | e
      · rw [e]; exact c
      · have := h1 z e; omega
    · rename_i c
      refine List.pairwise_cons.mpr ⟨fun z hz => ?_, insI_up h2⟩
      rcases List.mem_cons.mp ((insI_perm x ys).mem_iff.mp hz) with e | e
      · rw [e]; omega
      · exact h1 z e
theorem srtI_up : ∀ xs, (srtI xs).Pairwise (· ≤ ·)
  | [] => .nil
  | x :: xs => insI_up (srtI_up xs)
theorem srtI_len (xs : List Int) : (srtI xs).length = xs.length := (srtI_perm xs).length_eq
theorem srtI_eq {xs ys : List Int} (p : xs.Perm ys) : srtI xs = srtI ys := int_sorted ((srtI_perm xs).trans (p.trans (srtI_perm ys).symm)) (srtI_up xs) (srtI_up ys)
theorem srtI_of {xs ys : List Int} (p : xs.Perm ys) (u : ys.Pairwise (· ≤ ·)) : srtI xs = ys := int_sorted ((srtI_perm xs).trans p) (srtI_up xs) u
theorem isum_perm : ∀ {xs ys : List Int}, xs.Perm ys → xs.sum = ys.sum := fun p => by
  induction p with
  | nil => rfl
  | cons x _ ih => rw [List.sum_cons, List.sum_cons, ih]
  | swap x y l => rw [List.sum_cons, List.sum_cons, List.sum_cons, List.sum_cons]; omega
  | trans _ _ a b => rw [a, b]
theorem nsum_perm : ∀ {xs ys : List Nat}, xs.Perm ys → xs.sum = ys.sum := fun p => by
  induction p with
  | nil => rfl
  | cons x _ ih => rw [List.sum_cons, List.sum_cons, ih]
  | swap x y l => rw [List.sum_cons, List.sum_cons, List.sum_cons, List.sum_cons]; omega
  | trans _ _ a b => rw [a, b]
/-- rows, each with how often it is moved -/
abbrev WD := List (Int × Nat)
def wcost (P : WD) : Int := (P.map fun p => p.1 * (p.2 : Int)).sum
def kd (w D : Nat) (ds : List Nat) : Nat := (ds.map fun d => w ^ (D - d)).sum
def Kr (w : Nat) (ds : List Nat) : Prop := ∃ D, (∀ d ∈ ds, d ≤ D) ∧ kd w D ds ≤ w ^ D
theorem wcost_perm {P Q : WD} (p : P.Perm Q) : wcost P = wcost Q := isum_perm (p.map _)
theorem kd_perm {w D : Nat} {a b : List Nat} (p : a.Perm b) : kd w D a = kd w D b := nsum_perm (p.map _)
theorem wcost_cons (p : Int × Nat) (P : WD) : wcost (p :: P) = p.1 * (p.2 : Int) + wcost P := by
  unfold wcost
  rw [List.map_cons, List.sum_cons]
theorem wcost_app (P Q : WD) : wcost (P ++ Q) = wcost P + wcost Q := by
  unfold wcost
  rw [List.map_append, List.sum_append]
theorem kd_cons (w D d : Nat) (ds : List Nat) : kd w D (d :: ds) = w ^ (D - d) + kd w D ds := by
  unfold kd
  rw [List.map_cons, List.sum_cons]
theorem kd_app (w D : Nat) (a b : List Nat) : kd w D (a ++ b) = kd w D a + kd w D b := by
  unfold kd
  rw [List.map_append, List.sum_append]
theorem kd_up {w D : Nat} : ∀ {ds : List Nat}, (∀ d ∈ ds, d ≤ D) → kd w (D + 1) ds = w * kd w D ds
  | [], _ => by simp [kd]
  | d :: ds, h => by
    have ih := kd_up (w := w) (D := D) (ds := ds) fun x hx => h x (List.mem_cons_of_mem _ hx)
    have hd := h d (List.mem_cons_self ..)
    rw [kd_cons, kd_cons, ih, Nat.mul_add, show D + 1 - d = (D - d) + 1 by omega, Nat.pow_succ, Nat.mul_comm (w ^ (D - d))]
theorem kd_flat {w D : Nat} : ∀ {ds : List Nat}, (∀ d ∈ ds, d = D) → kd w D ds = ds.length
  | [], _ => by simp [kd]
  | d :: ds, h => by
    have ih := kd_flat (w := w) (D := D) (ds := ds) fun x hx => h x (List.mem_cons_of_mem _ hx)
    rw [kd_cons, ih, h d (List.mem_cons_self ..), Nat.sub_self, Nat.pow_zero, List.length_cons]
    omega
/-- the deepest ones settle the sum -/
theorem Kr.least {w : Nat} (hw : 0 < w) {ds : List Nat} (ne : ds ≠ []) : ∀ D, (∀ d ∈ ds, d ≤ D) → kd w D ds ≤ w ^ D → ∃ D, (∀ d ∈ ds, d ≤ D) ∧ D ∈ ds ∧ kd w D ds ≤ w ^ D
  | 0, h, k => by
    cases ds with
    | nil => exact absurd rfl ne
    | cons d ds =>
      have := h d (List.mem_cons_self ..)
      exact ⟨0, h, by rw [show d = 0 by omega]; exact List.mem_cons_self .., k⟩
  | D + 1, h, k => by
    by_cases z : D + 1 ∈ ds
    · exact ⟨D + 1, h, z, k⟩
    · have h' : ∀ d ∈ ds, d ≤ D := fun d hd => by
        have := h d hd
        have : d ≠ D + 1 := fun e => z (by rw [← e]; exact hd)
        omega
      rw [kd_up h', Nat.pow_succ, Nat.mul_comm (w ^ D)] at k
      exact Kr.least hw ne D h' (Nat.le_of_mul_le_mul_left k hw)
theorem pow_one {v : Nat} : ∀ k, ∃ q, (v + 1) ^ k = v * q + 1
  | 0 => ⟨0, by simp⟩
  | k + 1 => by
    obtain ⟨q, e⟩ := pow_one (v := v) k
    refine ⟨v * q + q + 1, ?_⟩
    rw [Nat.pow_succ, e, Nat.add_mul, Nat.mul_add (v * q), Nat.mul_add v (v * q + q), Nat.mul_add v (v * q), Nat.mul_one, Nat.mul_one, Nat.one_mul, Nat.mul_comm (v * q) v]
    omega
theorem kd_one {v D : Nat} : ∀ ds : List Nat, ∃ q, kd (v + 1) D ds = v * q + ds.length
  | [] => ⟨0, by simp [kd]⟩
  | d :: ds => by
    obtain ⟨q, e⟩ := kd_one (v := v) (D := D) ds
    obtain ⟨q2, e2⟩ := pow_one (v := v) (D - d)
    refine ⟨q2 + q, ?_⟩
    rw [kd_cons, e, e2, Nat.mul_add, List.length_cons]
    omega
/-- how many are deepest, but for what w divides -/
theorem kd_deep {w D : Nat} : ∀ {ds : List Nat}, (∀ d ∈ ds, d ≤ D) → ∃ q, kd w D ds = w * q + ds.count D
  | [], _ => ⟨0, by simp [kd]⟩
  | d :: ds, h => by
    obtain ⟨q, e⟩ := kd_deep (w := w) (ds := ds) fun x hx => h x (List.mem_cons_of_mem _ hx)
    have hd := h d (List.mem_cons_self ..)
    by_cases z : d = D
    · subst z
      refine ⟨q, ?_⟩
      rw [kd_cons, e, Nat.sub_self, Nat.pow_zero, List.count_cons_self]
      omega
    · refine ⟨w ^ (D - d - 1) + q, ?_⟩
      rw [kd_cons, e, List.count_cons_of_ne z, Nat.mul_add, show D - d = (D - d - 1) + 1 by omega, Nat.pow_succ, Nat.mul_comm (w ^ (D - d - 1)), Nat.add_sub_cancel]
      omega
theorem max_in : ∀ {ds : List Nat}, ds ≠ [] → ∃ D, D ∈ ds ∧ ∀ d ∈ ds, d ≤ D
  | [d], _ => ⟨d, List.mem_singleton.mpr rfl, fun x hx => by rw [List.mem_singleton.mp hx]; exact Nat.le_refl _⟩
  | d :: e :: ds, _ => by
    obtain ⟨D, h1, h2⟩ := max_in (ds := e :: ds) (by simp)
    by_cases c : D ≤ d
    · exact ⟨d, List.mem_cons_self .., fun x hx => by
        rcases List.mem_cons.mp hx with z | z
        · omega
        · have := h2 x z; omega⟩
    · exact ⟨D, List.mem_cons_of_mem _ h1, fun x hx => by
        rcases List.mem_cons.mp hx with z | z
        · omega
        · exact h2 x z⟩
/-- the lighter ones deeper: no dearer -/
theorem turned_right : ∀ (xs : List Int) (P : WD), xs.Pairwise (· ≤ ·) → xs.Perm (P.map (·.1)) → ∃ Q : WD, Q.map (·.1) = xs ∧ (Q.map (·.2)).Perm (P.map (·.2)) ∧ (Q.map (·.2)).Pairwise (· ≥ ·) ∧ wcost Q ≤ wcost P
  | [], P, _, p => by
    have e : P = [] := List.map_eq_nil_iff.mp p.nil_eq.symm
    subst e
    exact ⟨[], rfl, .refl _, .nil, Int.le_refl _⟩
  | x :: xs, P, u, p => by
    obtain ⟨u1, u2⟩ := List.pairwise_cons.mp u
    obtain ⟨⟨x', d⟩, hm, ex⟩ := List.mem_map.mp (p.mem_iff.mp (List.mem_cons_self ..))
    have ex : x' = x := ex
    subst ex
    have pR := List.perm_cons_erase hm
    generalize P.erase (x', d) = R at pR
    have pR1 : xs.Perm (R.map (·.1)) := (p.trans (pR.map (·.1))).cons_inv
    have nP : P.map (·.2) ≠ [] := fun z => by
      rw [List.map_eq_nil_iff] at z
      rw [z] at hm
      simp at hm
    obtain ⟨D, hD, hmax⟩ := max_in nP
    have pR2 := pR.map (fun p : Int × Nat => p.2)
    by_cases c : d = D
    · obtain ⟨Q, q1, q2, q3, q4⟩ := turned_right xs R u2 pR1
      refine ⟨(x', d) :: Q, by rw [List.map_cons, q1], ?_, ?_, ?_⟩
      · rw [List.map_cons]
        exact (q2.cons d).trans pR2.symm
      · rw [List.map_cons]
        refine List.pairwise_cons.mpr ⟨fun e he => ?_, q3⟩
        rw [c]
        exact hmax e (pR2.mem_iff.mpr (List.mem_cons_of_mem _ (q2.mem_iff.mp he)))
      · rw [wcost_perm pR, wcost_cons, wcost_cons]
        omega
    · have hD2 := pR2.mem_iff.mp hD
      rw [List.map_cons] at hD2
      rcases List.mem_cons.mp hD2 with z | z
      · exact absurd z.symm c
      · obtain ⟨⟨y, D'⟩, hy, eD⟩ := List.mem_map.mp z
        have eD : D' = D := eD
        subst eD
        have pS := List.perm_cons_erase hy
        generalize R.erase (y, D') = S at pS
        have pS1 : xs.Perm (((y, d) :: S).map (·.1)) := pR1.trans (pS.map (·.1))
        obtain ⟨Q, q1, q2, q3, q4⟩ := turned_right xs ((y, d) :: S) u2 pS1
        have pS2 := pS.map (fun p : Int × Nat => p.2)
        have all2 : (P.map (·.2)).Perm (d :: D' :: S.map (·.2)) := pR2.trans (pS2.cons d)
        have q2' : (Q.map (·.2)).Perm (d :: S.map (·.2)) := q2
        refine ⟨(x', D') :: Q, by rw [List.map_cons, q1], ?_, ?_, ?_⟩
        · rw [List.map_cons]
          exact (q2'.cons D').trans ((List.Perm.swap ..).trans all2.symm)
        · rw [List.map_cons]
          refine List.pairwise_cons.mpr ⟨fun e he => ?_, q3⟩
          refine hmax e (all2.mem_iff.mpr ?_)
          rcases List.mem_cons.mp (q2'.mem_iff.mp he) with z | z
          · rw [z]; exact List.mem_cons_self ..
          · exact List.mem_cons_of_mem _ (List.mem_cons_of_mem _ z)
        · rw [wcost_perm pR, wcost_cons, wcost_cons, wcost_perm pS, wcost_cons]
          rw [wcost_cons] at q4
          have hxy : x' ≤ y := u1 y (pS1.mem_iff.mpr (List.mem_cons_self ..))
          have hdD : d ≤ D' := hmax d (all2.mem_iff.mpr (List.mem_cons_self ..))
          have := Int.mul_nonneg (show (0 : Int) ≤ y - x' by omega) (show (0 : Int) ≤ (D' : Int) - (d : Int) by omega)
          rw [Int.sub_mul, Int.mul_sub, Int.mul_sub] at this
          dsimp only at q4 ⊢
          omega
theorem count_take {D : Nat} : ∀ (k : Nat) (ds : List Nat), ds.Pairwise (· ≥ ·) → (∀ d ∈ ds, d ≤ D) → k ≤ ds.count D → ∀ d ∈ ds.take k, d = D
  | 0, _, _, _, _, d, hd => by simp at hd
  | k + 1, [], _, _, h, d, hd => by simp at hd
  | k + 1, e :: ds, u, hm, h, d, hd => by
    obtain ⟨u1, u2⟩ := List.pairwise_cons.mp u
    have hin : D ∈ e :: ds := List.count_pos_iff.mp (by omega)
    have eD : e = D := by
      rcases List.mem_cons.mp hin with z | z
      · exact z.symm
      · have := u1 D z
        have := hm e (List.mem_cons_self ..)
        omega
    subst eD
    rw [List.count_cons_self] at h
    rw [List.take_succ_cons] at hd
    rcases List.mem_cons.mp hd with z | z
    · exact z
    · exact count_take k ds u2 (fun x hx => hm x (List.mem_cons_of_mem _ hx)) (by omega) d z
/-- merging the least ones again and again -/
def gl (w : Nat) : Nat → List Int → Int
  | 0, _ => 0
  | m + 1, xs => if 1 < xs.length then (xs.take (hm xs.length w)).sum + gl w m (srtI (xs.drop (hm xs.length w) ++ [(xs.take (hm xs.length w)).sum])) else 0
theorem isum_nonneg {xs : List Int} (h : ∀ x ∈ xs, 0 ≤ x) : 0 ≤ xs.sum := by
  induction xs with
  | nil => exact Int.le_refl _
  | cons x xs ih =>
    have a := h x (List.mem_cons_self ..)
    have b := ih fun y hy => h y (List.mem_cons_of_mem _ hy)
    rw [List.sum_cons]
    omega
theorem wcost_nonneg {P : WD} (h : ∀ p ∈ P, 0 ≤ p.1) : 0 ≤ wcost P := isum_nonneg fun x hx => by
  obtain ⟨p, hp, rfl⟩ := List.mem_map.mp hx
  exact Int.mul_nonneg (h p hp) (by omega)
theorem wcost_flat {D : Nat} : ∀ {Q : WD}, (∀ p ∈ Q, p.2 = D) → wcost Q = (Q.map (·.1)).sum * (D : Int)
  | [], _ => by simp [wcost]
  | p :: Q, h => by
    have ih := wcost_flat (Q := Q) fun q hq => h q (List.mem_cons_of_mem _ hq)
    rw [wcost_cons, ih, List.map_cons, List.sum_cons, Int.add_mul, h p (List.mem_cons_self ..)]
theorem nsum_flat {D : Nat} : ∀ {ds : List Nat}, (∀ d ∈ ds, d = D) → ds.sum = ds.length * D
  | [], _ => by simp
  | d :: ds, h => by
    have ih := nsum_flat (ds := ds) fun q hq => h q (List.mem_cons_of_mem _ hq)
    rw [List.sum_cons, ih, List.length_cons, Nat.add_mul, h d (List.mem_cons_self ..)]
    omega
theorem gl_le {v : Nat} (hv : 1 ≤ v) : ∀ (N : Nat) (P : WD) (m : Nat) (xs : List Int), (P.map (·.2)).sum < N → (∀ p ∈ P, 0 ≤ p.1) → Kr (v + 1) (P.map (·.2)) → xs.Pairwise (· ≤ ·) → xs.Perm (P.map (·.1)) → gl (v + 1) m xs ≤ wcost P := by
  intro N
  induction N with
  | zero => intro P m xs hN; omega
  | succ N ih =>
    intro P m xs hN hp hk u p
    cases m with
    | zero => exact wcost_nonneg hp
    | succ m =>
      have pl := p.length_eq
      rw [List.length_map] at pl
      by_cases c : 1 < xs.length
      · have ne : P.map (·.2) ≠ [] := fun z => by
          rw [List.map_eq_nil_iff] at z
          rw [z, List.length_nil] at pl
          omega
        obtain ⟨D, h1, h2, h3⟩ := let ⟨D, a, b⟩ := hk; Kr.least (by omega : 0 < v + 1) ne D a b
        obtain ⟨q1, e1⟩ := kd_one (v := v) (D := D) (P.map (·.2))
        obtain ⟨q2, e2⟩ := pow_one (v := v) D
        rw [List.length_map] at e1
        have hD : 1 ≤ D := by
          cases D with
          | zero =>
            have := kd_flat (w := v + 1) (D := 0) (ds := P.map (·.2)) fun d hd => by have := h1 d hd; omega
            rw [this, List.length_map, Nat.pow_zero] at h3
            omega
          | succ D => omega
        by_cases big : kd (v + 1) D (P.map (·.2)) + v ≤ (v + 1) ^ D
        · -- one of the deepest may go up
          obtain ⟨⟨x, d⟩, hm, ed⟩ := List.mem_map.mp h2
          have ed : d = D := ed
          subst ed
          have pR := List.perm_cons_erase hm
          generalize P.erase (x, d) = R at pR
          have s1 := nsum_perm (pR.map (·.2))
          have k1 := kd_perm (w := v + 1) (D := d) (pR.map (·.2))
          rw [List.map_cons, List.sum_cons] at s1
          rw [List.map_cons, kd_cons, Nat.sub_self, Nat.pow_zero] at k1
          have hx := hp _ hm
          have c1 := wcost_perm pR
          rw [wcost_cons] at c1
          have := ih ((x, d - 1) :: R) (m + 1) xs (by rw [List.map_cons, List.sum_cons]; dsimp only at s1 ⊢; omega) (fun q hq => ?_) ⟨d, fun e he => ?_, ?_⟩ u (p.trans (pR.map (·.1)))
          · rw [wcost_cons] at this
            have e : x * ((d - 1 : Nat) : Int) = x * (d : Int) - x := by
              rw [show ((d - 1 : Nat) : Int) = (d : Int) - 1 by omega, Int.mul_sub, Int.mul_one]
            dsimp only at this c1 hx
            rw [e] at this
            omega
          · rcases List.mem_cons.mp hq with z | z
            · rw [z]; exact hx
            · exact hp q (pR.mem_iff.mpr (List.mem_cons_of_mem _ z))
          · rw [List.map_cons] at he
            rcases List.mem_cons.mp he with z | z
            · rw [z]; show d - 1 ≤ d; omega
            · exact h1 e ((pR.map (·.2)).mem_iff.mpr (by rw [List.map_cons]; exact List.mem_cons_of_mem _ z))
          · rw [List.map_cons, kd_cons]
            show (v + 1) ^ (d - (d - 1)) + _ ≤ _
            rw [show d - (d - 1) = 1 by omega, Nat.pow_one]
            omega
        · -- the lightest ones are deepest
          have hb := hm_le (left := xs.length) (w := v + 1) (by omega) (by omega)
          obtain ⟨r, er, rv⟩ : ∃ r, hm xs.length (v + 1) = 2 + r ∧ (v + 1) ^ D = kd (v + 1) D (P.map (·.2)) + (v - 1 - r) ∧ r < v := by
            refine ⟨(xs.length - 2) % v, by unfold hm; rw [Nat.add_sub_cancel], ?_, Nat.mod_lt _ (by omega)⟩
            have rl := Nat.mod_lt (xs.length - 2) (show 0 < v by omega)
            have ed := Nat.div_add_mod (xs.length - 2) v
            generalize (xs.length - 2) % v = r at rl ed
            generalize (xs.length - 2) / v = a at ed
            generalize kd (v + 1) D (P.map (·.2)) = kk at *
            have e3 : v * q2 = v * (q1 + a) + (((v + 1) ^ D - kk) + r + 1) := by
              rw [Nat.mul_add]
              omega
            have dv : v ∣ ((v + 1) ^ D - kk) + r + 1 := (Nat.dvd_add_right (Nat.dvd_mul_right v (q1 + a))).mp (by rw [← e3]; exact Nat.dvd_mul_right ..)
            obtain ⟨cc, hc⟩ := dv
            have c1 : cc = 1 := by
              have h1 : cc ≠ 0 := fun z => by rw [z, Nat.mul_zero] at hc; omega
              have h2 : cc < 2 := Nat.lt_of_mul_lt_mul_left (a := v) (by rw [← hc]; omega)
              omega
            rw [c1, Nat.mul_one] at hc
            omega
          obtain ⟨es, rv⟩ := rv
          obtain ⟨Q, f1, f2, f3, f4⟩ := turned_right xs P u p
          have kQ := kd_perm (w := v + 1) (D := D) f2
          have cQ := f2.count_eq D
          have mQ : ∀ d ∈ Q.map (·.2), d ≤ D := fun d hd => h1 d (f2.mem_iff.mp hd)
          have cnt : hm xs.length (v + 1) ≤ (Q.map (·.2)).count D := by
            obtain ⟨q, eq⟩ := kd_deep (w := v + 1) h1
            have c1 : 0 < (P.map (·.2)).count D := List.count_pos_iff.mpr h2
            have e4 : (v + 1) * (v + 1) ^ (D - 1) = (v + 1) * q + ((P.map (·.2)).count D + (v - 1 - r)) := by
              rw [Nat.mul_comm, ← Nat.pow_succ, show (D - 1).succ = D by omega]
              omega
            have dv : v + 1 ∣ (P.map (·.2)).count D + (v - 1 - r) := (Nat.dvd_add_right (Nat.dvd_mul_right (v + 1) q)).mp (by rw [← e4]; exact Nat.dvd_mul_right ..)
            have := Nat.le_of_dvd (by omega) dv
            omega
          generalize ek : hm xs.length (v + 1) = k at *
          have lQ : Q.length = xs.length := by rw [← f1, List.length_map]
          have fl := count_take k _ f3 mQ cnt
          rw [← List.map_take] at fl
          have fl' : ∀ p ∈ Q.take k, p.2 = D := fun p hp => fl _ (List.mem_map_of_mem hp)
          have split := List.take_append_drop k Q
          have tl : (Q.take k).length = k := by rw [List.length_take]; omega
          have sx : (xs.take k).sum = ((Q.take k).map (·.1)).sum := by rw [List.map_take, f1]
          have dx : xs.drop k = (Q.drop k).map (·.1) := by rw [List.map_drop, f1]
          have wQ : wcost Q = (xs.take k).sum * (D : Int) + wcost (Q.drop k) := by
            rw [← split, wcost_app, wcost_flat fl', sx, split]
          have nQ : (Q.map (·.2)).sum = k * D + ((Q.drop k).map (·.2)).sum := by
            rw [← split, List.map_append, List.sum_append, nsum_flat fl, List.length_map, tl, split]
          have kQ2 : kd (v + 1) D (Q.map (·.2)) = k + kd (v + 1) D ((Q.drop k).map (·.2)) := by
            rw [← split, List.map_append, kd_app, kd_flat fl, List.length_map, tl, split]
          have nP := nsum_perm f2
          have k2D : 2 * D ≤ k * D := Nat.mul_le_mul_right D hb.1
          have pQ : ∀ p ∈ Q, 0 ≤ p.1 := fun q hq => by
            have : q.1 ∈ xs := by rw [← f1]; exact List.mem_map_of_mem hq
            obtain ⟨p', hp', e⟩ := List.mem_map.mp (p.mem_iff.mp this)
            rw [← e]
            exact hp p' hp'
          have := ih (((xs.take k).sum, D - 1) :: Q.drop k) m (srtI (xs.drop k ++ [(xs.take k).sum])) (by rw [List.map_cons, List.sum_cons]; dsimp only; omega) (fun q hq => ?_) ⟨D, fun e he => ?_, ?_⟩ (srtI_up _) ?_
          · unfold gl
            rw [if_pos c, ek]
            rw [wcost_cons] at this
            have e : (xs.take k).sum * ((D - 1 : Nat) : Int) = (xs.take k).sum * (D : Int) - (xs.take k).sum := by
              rw [show ((D - 1 : Nat) : Int) = (D : Int) - 1 by omega, Int.mul_sub, Int.mul_one]
            dsimp only at this
            rw [e] at this
            omega
          · rcases List.mem_cons.mp hq with z | z
            · rw [z]
              show 0 ≤ (xs.take k).sum
              rw [sx]
              refine isum_nonneg fun x hx => ?_
              obtain ⟨p', hp', rfl⟩ := List.mem_map.mp hx
              exact pQ p' (List.mem_of_mem_take hp')
            · exact pQ q (List.mem_of_mem_drop z)
          · rw [List.map_cons] at he
            rcases List.mem_cons.mp he with z | z
            · rw [z]; show D - 1 ≤ D; omega
            · rw [List.map_drop] at z
              exact mQ e (List.mem_of_mem_drop z)
          · rw [List.map_cons, kd_cons]
            show (v + 1) ^ (D - (D - 1)) + _ ≤ _
            rw [show D - (D - 1) = 1 by omega, Nat.pow_one]
            omega
          · refine (srtI_perm _).trans ?_
            rw [List.map_cons, dx]
            exact List.perm_append_comm
      · unfold gl
        rw [if_neg c]
        exact wcost_nonneg hp
end Rs

namespace Rs
open PySem PySem.Spec PyProof.Rows L2
/-- a merged one parted again -/
theorem parted {w : Nat} {C rest : List Int} {P : WD} (hC : C.length ≤ w) (hk : Kr w (P.map (·.2))) (p : (P.map (·.1)).Perm (rest ++ [C.sum])) : ∃ Q : WD, (Q.map (·.1)).Perm (C ++ rest) ∧ Kr w (Q.map (·.2)) ∧ wcost Q = wcost P + C.sum := by
  obtain ⟨⟨x, d⟩, hm, ex⟩ := List.mem_map.mp (p.mem_iff.mpr (List.mem_append_right _ (List.mem_singleton.mpr rfl)))
  have ex : x = C.sum := ex
  subst ex
  have pR := List.perm_cons_erase hm
  generalize P.erase (C.sum, d) = R at pR
  have pR1 : (R.map (·.1)).Perm rest := ((pR.map (·.1)).symm.trans (p.trans List.perm_append_comm)).cons_inv
  obtain ⟨D, h1, h2⟩ := hk
  have kP := kd_perm (w := w) (D := D) (pR.map (·.2))
  rw [List.map_cons, kd_cons] at kP
  have hd : d ≤ D := h1 d (List.mem_map_of_mem hm)
  have hR : ∀ e ∈ R.map (·.2), e ≤ D := fun e he => h1 e ((pR.map (·.2)).mem_iff.mpr (List.mem_cons_of_mem _ he))
  refine ⟨C.map (fun x => (x, d + 1)) ++ R, ?_, ⟨D + 1, fun e he => ?_, ?_⟩, ?_⟩
  · rw [List.map_append, List.map_map]
    have e : C.map ((fun p : Int × Nat => p.1) ∘ fun x => (x, d + 1)) = C := List.map_id'' (fun _ => rfl) C
    rw [e]
    exact List.Perm.append_left C pR1
  · rw [List.map_append] at he
    rcases List.mem_append.mp he with z | z
    · obtain ⟨q, hq, rfl⟩ := List.mem_map.mp z
      obtain ⟨x, _, rfl⟩ := List.mem_map.mp hq
      show d + 1 ≤ D + 1
      omega
    · have := hR e z
      omega
  · have f : kd w (D + 1) ((C.map fun x => (x, d + 1)).map (·.2)) = C.length * w ^ (D - d) := by
      unfold kd
      rw [nsum_flat (D := w ^ (D - d)) fun x hx => ?_, List.length_map, List.length_map, List.length_map]
      obtain ⟨y, hy, rfl⟩ := List.mem_map.mp hx
      obtain ⟨q, hq, rfl⟩ := List.mem_map.mp hy
      obtain ⟨z, _, rfl⟩ := List.mem_map.mp hq
      show w ^ (D + 1 - (d + 1)) = _
      rw [Nat.add_sub_add_right]
    have a := Nat.mul_le_mul_right (w ^ (D - d)) hC
    rw [List.map_append, kd_app, f, kd_up hR, Nat.pow_succ, Nat.mul_comm (w ^ D)]
    refine Nat.le_trans (Nat.add_le_add_right a _) ?_
    rw [← Nat.mul_add]
    exact Nat.mul_le_mul_left w (by rw [← kP]; exact h2)
  · rw [wcost_app, wcost_perm pR, wcost_cons, wcost_flat (D := d + 1) fun q hq => ?_, List.map_map]
    · have e : C.map ((fun p : Int × Nat => p.1) ∘ fun x => (x, d + 1)) = C := List.map_id'' (fun _ => rfl) C
      rw [e, show ((d + 1 : Nat) : Int) = (d : Int) + 1 by omega, Int.mul_add, Int.mul_one]
      dsimp only
      omega
    · obtain ⟨x, _, rfl⟩ := List.mem_map.mp hq
      rfl
theorem gl_got {w : Nat} (hw : 2 ≤ w) : ∀ (m : Nat) (xs : List Int), 1 ≤ xs.length → xs.length ≤ m + 1 → ∃ P : WD, (P.map (·.1)).Perm xs ∧ Kr w (P.map (·.2)) ∧ wcost P = gl w m xs := by
  have one : ∀ x : Int, Kr w ([(x, 0)].map (·.2)) := fun x => ⟨0, by simp, by simp [kd]⟩
  intro m
  induction m with
  | zero =>
    intro xs h1 h2
    obtain ⟨x, rfl⟩ := List.length_eq_one_iff.mp (by omega : xs.length = 1)
    exact ⟨[(x, 0)], .refl _, one x, by simp [wcost, gl]⟩
  | succ m ih =>
    intro xs h1 h2
    unfold gl
    by_cases c : 1 < xs.length
    · rw [if_pos c]
      have hb := hm_le (left := xs.length) (by omega) hw
      generalize hm xs.length w = k at *
      obtain ⟨P, p1, p2, p3⟩ := ih (srtI (xs.drop k ++ [(xs.take k).sum])) (by rw [srtI_len]; simp) (by rw [srtI_len]; simp; omega)
      obtain ⟨Q, q1, q2, q3⟩ := parted (C := xs.take k) (rest := xs.drop k) (by rw [List.length_take]; omega) p2 (p1.trans (srtI_perm _))
      rw [List.take_append_drop] at q1
      exact ⟨Q, q1, q2, by rw [q3, p3]; omega⟩
    · rw [if_neg c]
      obtain ⟨x, rfl⟩ := List.length_eq_one_iff.mp (by omega : xs.length = 1)
      exact ⟨[(x, 0)], .refl _, one x, by simp [wcost]⟩
theorem gl_fuel {w : Nat} (hw : 2 ≤ w) : ∀ (m m' : Nat) (xs : List Int), xs.length ≤ m + 1 → xs.length ≤ m' + 1 → gl w m xs = gl w m' xs := by
  intro m
  induction m with
  | zero =>
    intro m' xs h h'
    cases m' with
    | zero => rfl
    | succ m' => unfold gl; rw [if_neg (by omega)]
  | succ m ih =>
    intro m' xs h h'
    cases m' with
    | zero => unfold gl; rw [if_neg (by omega)]
    | succ m' =>
      unfold gl
      by_cases c : 1 < xs.length
      · rw [if_pos c, if_pos c]
        have hb := hm_le (left := xs.length) (by omega) hw
        rw [ih m' _ (by rw [srtI_len]; simp; omega) (by rw [srtI_len]; simp; omega)]
      · rw [if_neg c, if_neg c]
/-- the fewest rows that are moved -/
def optI (w : Nat) (ls : List Int) : Int := gl w ls.length (srtI ls)
theorem optI_perm {w : Nat} {a b : List Int} (p : a.Perm b) : optI w a = optI w b := by
  unfold optI
  rw [srtI_eq p, p.length_eq]
theorem optI_le {w : Nat} (hw : 2 ≤ w) {P : WD} {ls : List Int} (hp : ∀ x ∈ ls, 0 ≤ x) (hk : Kr w (P.map (·.2))) (p : (P.map (·.1)).Perm ls) : optI w ls ≤ wcost P := by
  obtain ⟨v, rfl⟩ : ∃ v, w = v + 1 := ⟨w - 1, by omega⟩
  exact gl_le (by omega) _ P _ _ (Nat.lt_succ_self _) (fun q hq => hp _ (p.mem_iff.mp (List.mem_map_of_mem hq))) hk (srtI_up ls) ((srtI_perm ls).trans p.symm)
theorem optI_choice {w : Nat} (hw : 2 ≤ w) {C rest ls : List Int} (hp : ∀ x ∈ ls, 0 ≤ x) (hC : C.length ≤ w) (p : ls.Perm (C ++ rest)) : optI w ls ≤ C.sum + optI w (rest ++ [C.sum]) := by
  obtain ⟨P, p1, p2, p3⟩ := gl_got hw (rest ++ [C.sum]).length (srtI (rest ++ [C.sum])) (by rw [srtI_len]; simp) (by rw [srtI_len]; omega)
  obtain ⟨Q, q1, q2, q3⟩ := parted hC p2 (p1.trans (srtI_perm _))
  have := optI_le hw hp q2 (q1.trans p.symm)
  rw [q3, p3] at this
  unfold optI at this ⊢
  omega
theorem optI_one {w : Nat} {ls : List Int} (h : ls.length = 1) : optI w ls = 0 := by
  unfold optI
  rw [h]
  unfold gl
  rw [if_neg (by rw [srtI_len]; omega)]
theorem optI_step {w : Nat} (hw : 2 ≤ w) {ls : List Int} (h : 2 ≤ ls.length) : optI w ls = ((srtI ls).take (hm ls.length w)).sum + optI w ((srtI ls).drop (hm ls.length w) ++ [((srtI ls).take (hm ls.length w)).sum]) := by
  have hb := hm_le h hw
  have sl := srtI_len ls
  unfold optI
  obtain ⟨n, e⟩ : ∃ n, ls.length = n + 1 := ⟨ls.length - 1, by omega⟩
  have l1 : ((srtI ls).drop (hm ls.length w) ++ [((srtI ls).take (hm ls.length w)).sum]).length = ls.length - hm ls.length w + 1 := by
    rw [List.length_append, List.length_drop, List.length_singleton, sl]
  conv => lhs; rw [e]
  conv => lhs; unfold gl
  rw [if_pos (by omega), sl]
  rw [gl_fuel hw n ((srtI ls).drop (hm ls.length w) ++ [((srtI ls).take (hm ls.length w)).sum]).length _ (by rw [srtI_len, l1]; omega) (by rw [srtI_len]; omega)]
/-! ### plans -/
mutual
def Pl.wd (ls : List Int) (d : Nat) : Pl → WD
  | .leaf n => [(ls.getD n.toNat 0, d)]
  | .node ps => Pl.wdL ls (d + 1) ps
def Pl.wdL (ls : List Int) (d : Nat) : List Pl → WD
  | [] => []
  | p :: ps => p.wd ls d ++ Pl.wdL ls d ps
end
theorem sumOf_app (ls a b : List Int) : sumOf ls (a ++ b) = sumOf ls a + sumOf ls b := by
  unfold sumOf
  rw [List.map_append, List.sum_append]
mutual
theorem Pl.wd_fst (ls : List Int) (d : Nat) : ∀ p : Pl, (p.wd ls d).map (·.1) = p.runs.map fun r => ls.getD r.toNat 0
  | .leaf n => by simp [Pl.wd, Pl.runs]
  | .node ps => by
    rw [Pl.wd, Pl.runs]
    exact Pl.wdL_fst ls (d + 1) ps
theorem Pl.wdL_fst (ls : List Int) (d : Nat) : ∀ ps : List Pl, (Pl.wdL ls d ps).map (·.1) = (Pl.runsL ps).map fun r => ls.getD r.toNat 0
  | [] => by simp [Pl.wdL, Pl.runsL]
  | p :: ps => by
    rw [Pl.wdL, Pl.runsL, List.map_append, List.map_append, Pl.wd_fst ls d p, Pl.wdL_fst ls d ps]
end
mutual
theorem Pl.wd_cost (ls : List Int) (d : Nat) : ∀ p : Pl, wcost (p.wd ls d) = p.cost ls + sumOf ls p.runs * (d : Int)
  | .leaf n => by simp [Pl.wd, Pl.runs, wcost, Pl.cost, sumOf]
  | .node ps => by
    rw [Pl.wd, Pl.runs, Pl.cost, Pl.wdL_cost ls (d + 1) ps, show ((d + 1 : Nat) : Int) = (d : Int) + 1 by omega, Int.mul_add, Int.mul_one]
    omega
theorem Pl.wdL_cost (ls : List Int) (d : Nat) : ∀ ps : List Pl, wcost (Pl.wdL ls d ps) = Pl.costL ls ps + sumOf ls (Pl.runsL ps) * (d : Int)
  | [] => by simp [Pl.wdL, Pl.runsL, wcost, Pl.costL, sumOf]
  | p :: ps => by
    rw [Pl.wdL, Pl.runsL, Pl.costL, wcost_app, Pl.wd_cost ls d p, Pl.wdL_cost ls d ps, sumOf_app, Int.add_mul]
    omega
end
mutual
theorem Pl.wd_kd {w D : Nat} (ls : List Int) (d : Nat) : ∀ p : Pl, p.fits w = true → d + p.depth ≤ D → kd w D ((p.wd ls d).map (·.2)) ≤ w ^ (D - d) ∧ ∀ e ∈ (p.wd ls d).map (·.2), e ≤ D
  | .leaf n, _, h => by
    rw [Pl.depth] at h
    rw [Pl.wd]
    exact ⟨by simp [kd], fun e he => by
      have : e = d := by simpa using he
      omega⟩
  | .node ps, f, h => by
    rw [Pl.fits] at f
    simp only [Bool.and_eq_true, decide_eq_true_eq] at f
    rw [Pl.depth] at h
    rw [Pl.wd]
    obtain ⟨a, b⟩ := Pl.wdL_kd (w := w) (D := D) ls (d + 1) ps f.2 (by omega)
    refine ⟨Nat.le_trans a ?_, b⟩
    refine Nat.le_trans (Nat.mul_le_mul_right _ f.1.2) ?_
    rw [show D - d = (D - (d + 1)) + 1 by omega, Nat.pow_succ, Nat.mul_comm]
    exact Nat.le_refl _
theorem Pl.wdL_kd {w D : Nat} (ls : List Int) (d : Nat) : ∀ ps : List Pl, Pl.fitsL w ps = true → d + Pl.depthL ps ≤ D → kd w D ((Pl.wdL ls d ps).map (·.2)) ≤ ps.length * w ^ (D - d) ∧ ∀ e ∈ (Pl.wdL ls d ps).map (·.2), e ≤ D
  | [], _, _ => by simp [Pl.wdL, kd]
  | p :: ps, f, h => by
    rw [Pl.fitsL] at f
    simp only [Bool.and_eq_true] at f
    rw [Pl.depthL] at h
    obtain ⟨a, b⟩ := Pl.wd_kd (w := w) (D := D) ls d p f.1 (by omega)
    obtain ⟨a2, b2⟩ := Pl.wdL_kd (w := w) (D := D) ls d ps f.2 (by omega)
    rw [Pl.wdL, List.map_append, kd_app, List.length_cons, Nat.add_mul, Nat.one_mul]
    refine ⟨by omega, fun e he => ?_⟩
    rcases List.mem_append.mp he with z | z
    · exact b e z
    · exact b2 e z
end
theorem rng_get (ls : List Int) : (rng 0 ls.length).map (fun r => ls.getD r.toNat 0) = ls := by
  unfold rng
  rw [List.map_map]
  refine List.ext_getElem? fun i => ?_
  rw [List.getElem?_map]
  by_cases h : i < ls.length
  · rw [List.getElem?_range (by omega), List.getElem?_eq_getElem h]
    show some (ls.getD (0 + (i : Int)).toNat 0) = _
    have : (0 + (i : Int)).toNat = i := by omega
    rw [this, getD_lt h]
  · rw [List.getElem?_eq_none (by rw [List.length_range]; omega), List.getElem?_eq_none (by omega)]
    rfl
/-- no plan moves fewer -/
theorem plan_le {w : Nat} (hw : 2 ≤ w) {ls : List Int} {pl : Pl} (hp : ∀ x ∈ ls, 0 ≤ x) (f : pl.fits w = true) (p : pl.runs.Perm (rng 0 ls.length)) : optI w ls ≤ pl.cost ls := by
  obtain ⟨a, b⟩ := Pl.wd_kd (w := w) (D := pl.depth) ls 0 pl f (by omega)
  have e := Pl.wd_cost ls 0 pl
  have pf : ((pl.wd ls 0).map (·.1)).Perm ls := by
    rw [Pl.wd_fst]
    have := p.map fun r => ls.getD r.toNat 0
    rwa [rng_get] at this
  have := optI_le hw hp ⟨pl.depth, b, a⟩ pf
  rw [e] at this
  simpa using this
theorem srtL_fst (rows : List (Int × Int)) : (srtL rows).map (·.1) = srtI (rows.map (·.1)) := by
  refine (srtI_of ((srtL_perm rows).map (·.1)).symm ?_).symm
  rw [List.pairwise_map]
  exact List.Pairwise.imp (fun h => by have := LeL.iff.mp h; omega) (srtL_up rows)
theorem cSize_eq {w : Nat} {rows : List (Int × Int)} (nd : (rows.map (·.2)).Nodup) : cSize w rows = ((srtI (rows.map (·.1))).take (hm rows.length w)).sum := by
  unfold cSize
  rw [isum_perm ((least_rows (w := w) nd).map (·.1)), List.map_take, srtL_fst]
theorem least_rest {w : Nat} {rows : List (Int × Int)} (nd : (rows.map (·.2)).Nodup) : (rows.filter fun r => decide (r.2 ∉ leastN rows w)).Perm ((srtL rows).drop (hm rows.length w)) := by
  have e : (rows.filter fun r => decide (r.2 ∉ leastN rows w)) = rows.filter fun r => !decide (r.2 ∈ leastN rows w) := by
    congr 1
    funext r
    exact not_mem_dec
  rw [e]
  have a := filter_perm (fun r : Int × Int => decide (r.2 ∈ leastN rows w)) rows
  have b := least_rows (w := w) nd
  have c := List.take_append_drop (hm rows.length w) (srtL rows)
  have d : ((srtL rows).take (hm rows.length w) ++ rows.filter fun r => !decide (r.2 ∈ leastN rows w)).Perm ((srtL rows).take (hm rows.length w) ++ (srtL rows).drop (hm rows.length w)) := by
    rw [c]
    exact ((List.Perm.append_right _ b).symm.trans a.symm).trans (srtL_perm rows).symm
  exact (List.perm_append_left_iff _).mp d
theorem cRows_fst {n w : Nat} {rows : List (Int × Int)} {plans : List (Int × Pl)} (nd : (rows.map (·.2)).Nodup) : ((cRows n w rows plans).map (·.1)).Perm ((srtI (rows.map (·.1))).drop (hm rows.length w) ++ [((srtI (rows.map (·.1))).take (hm rows.length w)).sum]) := by
  unfold cRows
  rw [List.map_append, ← srtL_fst, ← List.map_drop, ← List.map_take]
  refine List.Perm.append ((least_rest (w := w) nd).map (·.1)) ?_
  rw [List.map_singleton, cSize_eq nd, ← srtL_fst, ← List.map_take]
theorem cgo_gl {n w : Nat} (hw : 2 ≤ w) : ∀ (m : Nat) (rows : List (Int × Int)) (plans : List (Int × Pl)) (found : Int), CInv n rows plans → (cgo n w m rows plans found).1 = found + gl w m (srtI (rows.map (·.1))) := by
  intro m
  induction m with
  | zero =>
    intro rows plans found _
    show found = found + 0
    omega
  | succ m ih =>
    intro rows plans found I
    unfold cgo gl
    by_cases c : 1 < rows.length
    · rw [if_pos c, if_pos (by rw [srtI_len, List.length_map]; exact c), ih _ _ _ I.step, cSize_eq I.nd, srtI_eq (cRows_fst (n := n) (w := w) (plans := plans) I.nd), srtI_len, List.length_map]
      omega
    · rw [if_neg c, if_neg (by rw [srtI_len, List.length_map]; exact c)]
      show found = found + 0
      omega
theorem rows0_fst (ls : List Int) : (rows0 ls).map (·.1) = ls := by
  unfold rows0
  rw [List.map_map]
  refine List.ext_getElem? fun i => ?_
  rw [List.getElem?_map]
  by_cases h : i < ls.length
  · rw [List.getElem?_range h, List.getElem?_eq_getElem h]
    show some (ls.getD i 0) = _
    rw [getD_lt h]
  · rw [List.getElem?_eq_none (by rw [List.length_range]; omega), List.getElem?_eq_none (by omega)]
    rfl
theorem cheapL_opt {ls : List Int} {w : Nat} (hw : 2 ≤ w) : (cheapL ls w).1 = optI w ls := by
  unfold cheapL optI
  rw [cgo_gl hw _ _ _ _ (CInv.start ls), rows0_fst]
  omega
theorem cgo_cost {n w : Nat} (hw : 2 ≤ w) {ls : List Int} : ∀ (m : Nat) (rows : List (Int × Int)) (plans : List (Int × Pl)) (found : Int), CInv n rows plans → 1 ≤ rows.length → rows.length ≤ m + 1 → (∀ r ∈ rows, sumOf ls (lookP plans r.2).runs = r.1) → (rows.map fun r => (lookP plans r.2).cost ls).sum = found →
    (cgo n w m rows plans found).2.cost ls = (cgo n w m rows plans found).1 := by
  intro m
  have last : ∀ (rows : List (Int × Int)) (plans : List (Int × Pl)) (found : Int), rows.length = 1 → (rows.map fun r => (lookP plans r.2).cost ls).sum = found → (lookP plans (rows.getD 0 (0, 0)).2).cost ls = found := fun rows plans found h1 hf => by
    obtain ⟨r, rfl⟩ := List.length_eq_one_iff.mp h1
    show (lookP plans r.2).cost ls = found
    rw [← hf]
    simp
  induction m with
  | zero =>
    intro rows plans found I h1 h2 hs hf
    exact last rows plans found (by omega) hf
  | succ m ih =>
    intro rows plans found I h1 h2 hs hf
    unfold cgo
    by_cases c : 1 < rows.length
    · rw [if_pos c]
      have hb := hm_le (left := rows.length) (by omega) hw
      have rl := I.rows_len (w := w) (by omega) hw
      have lo : ∀ r ∈ rows, lookP (cPlans n w rows plans) r.2 = lookP plans r.2 := fun r hr => look_old (I.names r hr)
      have ln : lookP (cPlans n w rows plans) ((n : Int) + plans.length) = .node ((leastN rows w).map (lookP plans)) := look_new fun q hq e => by
        have := I.lt q hq
        omega
      have lr := least_rows (w := w) I.nd
      have eR : (leastN rows w).map (lookP plans) = ((srtL rows).take (hm rows.length w)).map fun r => lookP plans r.2 := by
        unfold leastN
        rw [List.map_map]
        rfl
      have inS : ∀ r ∈ (srtL rows).take (hm rows.length w), r ∈ rows := fun r hr => (srtL_perm rows).mem_iff.mp (List.mem_of_mem_take hr)
      have eS : sumOf ls (Pl.node ((leastN rows w).map (lookP plans))).runs = cSize w rows := by
        rw [Pl.runs, eR, cSize, isum_perm (lr.map (·.1))]
        have : ∀ rs : List (Int × Int), (∀ r ∈ rs, r ∈ rows) → sumOf ls (Pl.runsL (rs.map fun r => lookP plans r.2)) = (rs.map (·.1)).sum := fun rs h => by
          induction rs with
          | nil => simp [Pl.runsL, sumOf]
          | cons r rs ih => rw [List.map_cons, Pl.runsL, sumOf_app, ih (fun x hx => h x (List.mem_cons_of_mem _ hx)), List.map_cons, List.sum_cons, hs r (h r (List.mem_cons_self ..))]
        exact this _ inS
      refine ih _ _ _ I.step (by omega) (by omega) (fun r hr => ?_) ?_
      · unfold cRows at hr
        rcases List.mem_append.mp hr with z | z
        · have hm := (List.mem_filter.mp z).1
          rw [lo r hm]
          exact hs r hm
        · rw [List.mem_singleton] at z
          rw [z, ln]
          exact eS
      · unfold cRows
        rw [List.map_append, List.sum_append, List.map_singleton, ln]
        have e1 : ((rows.filter fun r => decide (r.2 ∉ leastN rows w)).map fun r => (lookP (cPlans n w rows plans) r.2).cost ls) = (rows.filter fun r => decide (r.2 ∉ leastN rows w)).map fun r => (lookP plans r.2).cost ls := List.map_congr_left fun r hr => by rw [lo r (List.mem_filter.mp hr).1]
        have e2 : (Pl.node ((leastN rows w).map (lookP plans))).cost ls = cSize w rows + (((srtL rows).take (hm rows.length w)).map fun r => (lookP plans r.2).cost ls).sum := by
          rw [← eS, Pl.cost, Pl.runs, Pl.costL_map, eR, List.map_map]
          rfl
        rw [e1, e2, isum_perm ((least_rest (w := w) I.nd).map fun r => (lookP plans r.2).cost ls), ← hf, ← isum_perm ((srtL_perm rows).map fun r => (lookP plans r.2).cost ls)]
        conv => rhs; rw [← List.take_append_drop (hm rows.length w) (srtL rows), List.map_append, List.sum_append]
        simp
        omega
    · rw [if_neg c]
      exact last rows plans found (by omega) hf
theorem cheapL_cost {ls : List Int} {w : Nat} (h1 : 1 ≤ ls.length) (hw : 2 ≤ w) : (cheapL ls w).2.cost ls = (cheapL ls w).1 := by
  have e : ∀ r ∈ rows0 ls, ∃ i : Nat, r.2 = i ∧ r.1 = ls.getD i 0 ∧ lookP (plans0 ls.length) r.2 = .leaf (i : Int) := fun r hr => by
    obtain ⟨i, hi, rfl⟩ := List.mem_map.mp hr
    exact ⟨i, rfl, rfl, look0 (List.mem_range.mp hi)⟩
  refine cgo_cost hw ls.length (rows0 ls) (plans0 ls.length) 0 (CInv.start ls) (by simp [rows0]; omega) (by simp [rows0]) (fun r hr => ?_) ?_
  · obtain ⟨i, _, z1, z⟩ := e r hr
    rw [z, z1]
    simp [Pl.runs, sumOf]
  · have : ∀ rs : List (Int × Int), (∀ r ∈ rs, r ∈ rows0 ls) → (rs.map fun r => (lookP (plans0 ls.length) r.2).cost ls).sum = 0 := fun rs h => by
      induction rs with
      | nil => rfl
      | cons r rs ih =>
        obtain ⟨i, _, _, z⟩ := e r (h r (List.mem_cons_self ..))
        rw [List.map_cons, List.sum_cons, ih (fun x hx => h x (List.mem_cons_of_mem _ hx)), z, Pl.cost]
        rfl
    exact this _ fun r h => h
end Rs

namespace Rs
open PySem PySem.Spec PyProof.Rows L2
abbrev N_law_in : List Str := ["_law_plan_here", "_law_found", "_law_part"]
abbrev P_law_in : List Str := ["_law_plan_here"]
def spr_law_in (K : PySem.W.Frag) (d : Nat) : Sp := fun vs H Q E => match vs with
  | [pv] => ∃ pl, PlR H pv pl ∧ pl.depth < d ∧ pl.runs.length ≤ 1000 ∧ ∀ l H', H l = none → H' l = some (.lst (pl.runs.map V.int)) → Same H H' → Q (.ref l) H'
  | _ => False
abbrev sp_law_in (K : PySem.W.Frag) : Sp := spr_law_in K 42
theorem no_law_in (K : PySem.W.Frag) : ∀ vs H Q E, ¬ spr_law_in K 0 vs H Q E := fun vs H Q E h => by
  unfold spr_law_in at h
  match vs, h with
  | [_], ⟨_, _, h1, _⟩ => omega
theorem len_law_in (K : PySem.W.Frag) : ∀ d vs H Q E, spr_law_in K d vs H Q E → vs.length = 1 := fun d vs H Q E h => by
  unfold spr_law_in at h
  match vs, h with
  | [_], _ => rfl
def t_law_in (K : PySem.W.Frag) (sp : Sp) (E : XK) : TS := (tSeq (tIfS (tNot (tB (tIsi K "tuple" (tVar 0)))) (tRet (tLst (tCons (tVar 0) tNil))) tNext)
  (tSeq (tAsg (tLst tNil) (gName 1))
   (tSeq (tFor (iTup K (tVar 0)) (gName 2) (tDrop (tBM K "list" rExtend (tVar 1) (tCons (tCall sp [] E (tCons (tVar 2) tNil)) tNil))))
    (tRet (tVar 1)))))
theorem pure_law_in {K : PySem.W.Frag} (d : Nat) : ∀ vs H Q E, spr_law_in K (d + 1) vs H Q E → t_law_in K (spr_law_in K d) E { nx := fun _ H' => Q .non H', rt := Q } (start N_law_in vs) H := by
  intro vs H Q E hyp
  unfold spr_law_in at hyp
  match vs, hyp with
  | [pv], hyp =>
    obtain ⟨pl, hp, hd, hl, k⟩ := hyp
    cases pl with
    | leaf n =>
      have e := PlR.unleaf hp
      subst e
      refine ⟨_, rfl, isi_go (t := "int") (b := false) (.base (.int n)) (by decide +kernel) ⟨_, rfl, _, rfl, szle (by show 1 ≤ 100000; decide), fun l hl => ?_⟩⟩
      exact k l _ hl upd_same (Rs.Same.new hl)
    | node ps =>
      obtain ⟨a, tv, rfl, et, pt⟩ := PlR.unnode hp
      rw [Pl.depth] at hd
      rw [Pl.runs] at hl k
      refine ⟨_, rfl, isi_go (t := "tuple") (b := true) (tyT (SqT.of et)) (by decide +kernel) ⟨_, rfl, ?_⟩⟩
      refine ⟨sz0, fun f hf => ?_⟩
      refine ⟨_, rfl, a, rfl, ⟨_, SqT.of ((Rs.Same.new hf) _ _ et)⟩, ?_⟩
      refine for_tup (K := K) (a := a) (xs := tv) (fun j σ H' => ∃ x2, σ = [some (.ref a), some (.ref f), x2] ∧ H' f = some (.lst ((Pl.runsL (ps.take j)).map V.int)) ∧ Same H H') ⟨none, rfl, upd_same, Rs.Same.new hf⟩ ?_ ?_ ?_
      · rintro j σ H' _ ⟨_, _, _, s⟩
        exact SqT.of (s _ _ et)
      · rintro j v σ H' hj ⟨x2, rfl, ef, s⟩
        obtain ⟨p, hp, hpv⟩ := P2.get pt hj
        have dl := Pl.depthL_le (List.mem_of_getElem? hp)
        have b1 := runsL_take ps (j + 1)
        rw [runsL_snoc hp, List.length_append] at b1
        refine ⟨_, rfl, .inl ⟨rfl, _, SqL.of ef⟩, _, rfl, p, PlR.st _ _ _ _ (TupLe.same s) hpv, by omega, by omega, fun l H2 hl2 el s2 => ?_⟩
        have ef2 := s2 _ _ ef
        refine ⟨f, l, _, _, rfl, rfl, ef2, el, szle (by rw [List.length_map, List.length_map]; omega), _, rfl, ?_, Rs.Same.mut (s.trans s2) hf⟩
        rw [upd_same, runsL_snoc hp, List.map_append]
      · rintro σ H' ⟨x2, rfl, ef, s⟩
        rw [List.take_of_length_le (by rw [pt.length]; exact Nat.le_refl _)] at ef
        exact ⟨_, rfl, k f H' hf ef s⟩
abbrev N_law_cost : List Str := ["_law_lengths_here", "_law_plan_here", "_law_inner", "_law_part", "_law_run"]
abbrev P_law_cost : List Str := ["_law_lengths_here", "_law_plan_here"]
def spr_law_cost (K : PySem.W.Frag) (d : Nat) : Sp := fun vs H Q E => match vs with
  | [lv, pv] => ∃ (l : Addr) (ls : List Int) (pl : Pl), lv = .ref l ∧ H l = some (.lst (ls.map V.int)) ∧ PlR H pv pl ∧ pl.depth < d ∧ pl.depth < 42 ∧ pl.slim ∧ pl.runs.length ≤ 1000 ∧ (∀ r ∈ pl.runs, 0 ≤ r ∧ r < ls.length) ∧ ∀ H', Same H H' → Q (.int (pl.cost ls)) H'
  | _ => False
abbrev sp_law_cost (K : PySem.W.Frag) : Sp := spr_law_cost K 42
theorem no_law_cost (K : PySem.W.Frag) : ∀ vs H Q E, ¬ spr_law_cost K 0 vs H Q E := fun vs H Q E h => by
  unfold spr_law_cost at h
  match vs, h with
  | [_, _], ⟨_, _, _, _, _, _, h1, _⟩ => omega
theorem len_law_cost (K : PySem.W.Frag) : ∀ d vs H Q E, spr_law_cost K d vs H Q E → vs.length = 2 := fun d vs H Q E h => by
  unfold spr_law_cost at h
  match vs, h with
  | [_, _], _ => rfl
def t_law_cost (K : PySem.W.Frag) (sp : Sp) (E : XK) : TS := (tSeq (tIfS (tNot (tB (tIsi K "tuple" (tVar 1)))) (tRet (tC (.int 0))) tNext)
  (tSeq (tAsg (tCB1 (rSum K) (tLc (iTup K (tVar 1)) (gName 3) tYes (tCall sp [] E0 (tCons (tVar 0) (tCons (tVar 3) tNil))) [3])) (gName 2))
   (tRet (tOp xAdd (tVar 2) (tCB1 (rSum K) (tLc (iList K (tCall (sp_law_in K) [] E (tCons (tVar 1) tNil))) (gName 4) tYes (tOp (rIxL K) (tVar 0) (tVar 4)) [4]))))))
theorem pure_law_cost {K : PySem.W.Frag} (d : Nat) : ∀ vs H Q E, spr_law_cost K (d + 1) vs H Q E → t_law_cost K (spr_law_cost K d) E { nx := fun _ H' => Q .non H', rt := Q } (start N_law_cost vs) H := by
  intro vs H Q E hyp
  unfold spr_law_cost at hyp
  match vs, hyp with
  | [lv, pv], hyp =>
    obtain ⟨l, ls, pl, rfl, hl, hp, hd, hd2, sl, hn, hin, k⟩ := hyp
    cases pl with
    | leaf n =>
      have e := PlR.unleaf hp
      subst e
      exact ⟨_, rfl, isi_go (t := "int") (b := false) (.base (.int n)) (by decide +kernel) ⟨_, rfl, k H (Same.refl H)⟩⟩
    | node ps =>
      have hp0 := hp
      obtain ⟨a, tv, rfl, et, pt⟩ := PlR.unnode hp
      have dn : (Pl.node ps).depth = Pl.depthL ps + 1 := by rw [Pl.depth]
      have rn : (Pl.node ps).runs = Pl.runsL ps := by rw [Pl.runs]
      rw [Pl.slim] at sl
      have sls := Pl.slimL_of sl.2
      have lt := pt.length
      refine ⟨_, rfl, isi_go (t := "tuple") (b := true) (tyT (SqT.of et)) (by decide +kernel) ⟨_, rfl, ?_⟩⟩
      refine ⟨_, rfl, a, rfl, ⟨_, SqT.of et⟩, fun D hD => ?_⟩
      refine lcm_tup (S := IntAt) (fun p : Pl => some (p.cost ls)) IntAt.st et pt hD ?_ (by omega) ?_
      · intro j v x H' hx hj r s skip put
        have xm := List.mem_of_getElem? hx
        have dl := Pl.depthL_le xm
        have sb := Pl.runs_sub xm
        have sbl := sb.length_le
        rw [rn] at hn hin
        exact ⟨rfl, lc_yes ⟨_, rfl, _, rfl, l, ls, x, rfl, s _ _ hl, PlR.st _ _ _ _ (TupLe.same s) r, by omega, by omega, sls x xm, by omega, fun q hq => hin q (sb.subset hq), fun H2 s2 => put H2 _ _ s2 rfl rfl⟩⟩
      · intro H2 L s
        rw [fm_some] at L
        refine ⟨D, _, rfl, SqL.of (Lst.ints.mp L), ?_⟩
        refine ⟨_, rfl, _, rfl, .node ps, PlR.st _ _ _ _ (TupLe.same s) hp0, hd2, hn, fun lr H3 hlr er s3 => ?_⟩
        have s13 := s.trans s3
        refine ⟨lr, rfl, ⟨_, SqL.of er⟩, fun D2 hD2 => ?_⟩
        refine lcm_list (S := IntAt) (fun r : Int => some (ls.getD r.toNat 0)) IntAt.st er (ints_paired _) hD2 ?_ (by omega) ?_
        · intro j v x H' hx hj r s skip put
          have ev : v = .int x := r
          subst ev
          obtain ⟨h0, h1⟩ := hin x (List.mem_of_getElem? hx)
          refine ⟨rfl, lc_yes ⟨_, rfl, _, rfl, ixL ((s13.trans s) _ _ hl) (j := x.toNat) (by omega) (v := .int (ls.getD x.toNat 0)) ?_ (put H' _ _ (Same.refl _) rfl rfl)⟩⟩
          rw [List.getElem?_map, List.getElem?_eq_getElem (by omega), getD_lt (by omega)]
          rfl
        · intro H4 L4 s4
          rw [fm_some] at L4
          refine ⟨D2, _, rfl, SqL.of (Lst.ints.mp L4), _, _, rfl, rfl, ?_⟩
          have e : (ps.map fun p => p.cost ls).sum + ((Pl.node ps).runs.map fun r => ls.getD r.toNat 0).sum = (Pl.node ps).cost ls := by
            rw [Pl.cost, Pl.costL_map, rn, Int.add_comm]
            rfl
          dsimp only
          rw [e]
          exact k H4 (s13.trans s4)
abbrev N_law_fits : List Str := ["_law_plan_here", "_law_ways", "_law_bad", "_law_part"]
abbrev P_law_fits : List Str := ["_law_plan_here", "_law_ways"]
def spr_law_fits (K : PySem.W.Frag) (d : Nat) : Sp := fun vs H Q E => match vs with
  | [pv, wv] => ∃ (pl : Pl) (w : Nat), PlR H pv pl ∧ pl.depth < d ∧ wv = .int (w : Int) ∧ w ≤ 1000 ∧ pl.fits w = true ∧ ∀ H', Same H H' → Q (.bl true) H'
  | _ => False
abbrev sp_law_fits (K : PySem.W.Frag) : Sp := spr_law_fits K 42
theorem no_law_fits (K : PySem.W.Frag) : ∀ vs H Q E, ¬ spr_law_fits K 0 vs H Q E := fun vs H Q E h => by
  unfold spr_law_fits at h
  match vs, h with
  | [_, _], ⟨_, _, _, h1, _⟩ => omega
theorem len_law_fits (K : PySem.W.Frag) : ∀ d vs H Q E, spr_law_fits K d vs H Q E → vs.length = 2 := fun d vs H Q E h => by
  unfold spr_law_fits at h
  match vs, h with
  | [_, _], _ => rfl
def t_law_fits (K : PySem.W.Frag) (sp : Sp) (E : XK) : TS := (tSeq (tIfS (tNot (tB (tIsi K "tuple" (tVar 0)))) (tRet (tC (.bl true))) tNext)
  (tSeq (tAsg (tLc (iTup K (tVar 0)) (gName 3) (tNot (tB (tCall sp [] E0 (tCons (tVar 3) (tCons (tVar 1) tNil))))) (tVar 3) [3]) (gName 2))
   (tRet (tAndV (tChain xLe xLe (tC (.int 2)) (tCB1 (xLen K) (tVar 0)) (tVar 1)) (tOp (xEqE K) (tVar 2) (tLst tNil))))))
theorem fm_none {α β : Type} (l : List α) : l.filterMap (fun _ => (none : Option β)) = [] := by
  induction l with
  | nil => rfl
  | cons x l ih => rw [List.filterMap_cons, ih]
theorem pure_law_fits {K : PySem.W.Frag} (d : Nat) : ∀ vs H Q E, spr_law_fits K (d + 1) vs H Q E → t_law_fits K (spr_law_fits K d) E { nx := fun _ H' => Q .non H', rt := Q } (start N_law_fits vs) H := by
  intro vs H Q E hyp
  unfold spr_law_fits at hyp
  match vs, hyp with
  | [pv, wv], hyp =>
    obtain ⟨pl, w, hp, hd, rfl, hw, fit, k⟩ := hyp
    cases pl with
    | leaf n =>
      have e := PlR.unleaf hp
      subst e
      exact ⟨_, rfl, isi_go (t := "int") (b := false) (.base (.int n)) (by decide +kernel) ⟨_, rfl, k H (Same.refl H)⟩⟩
    | node ps =>
      obtain ⟨a, tv, rfl, et, pt⟩ := PlR.unnode hp
      have lt := pt.length
      rw [Pl.depth] at hd
      rw [Pl.fits] at fit
      simp only [Bool.and_eq_true, decide_eq_true_eq] at fit
      have fl := fit.2
      rw [Pl.fitsL_all, List.all_eq_true] at fl
      refine ⟨_, rfl, isi_go (t := "tuple") (b := true) (tyT (SqT.of et)) (by decide +kernel) ⟨_, rfl, ?_⟩⟩
      refine ⟨_, rfl, a, rfl, ⟨_, SqT.of et⟩, fun D hD => ?_⟩
      refine lcm_tup (S := PlR) (fun _ : Pl => none) PlR.st et pt hD ?_ (by omega) ?_
      · intro j v x H' hx hj r s skip put
        have xm := List.mem_of_getElem? hx
        have dl := Pl.depthL_le xm
        exact ⟨rfl, _, rfl, _, rfl, x, w, PlR.st _ _ _ _ (TupLe.same s) r, by omega, rfl, hw, fl x xm, fun H2 s2 => ⟨_, rfl, skip H2 s2 rfl⟩⟩
      · intro H2 L s
        rw [fm_none] at L
        obtain ⟨dv, ed, pd⟩ := L
        have e0 : dv = [] := List.eq_nil_of_length_eq_zero pd.length
        subst e0
        refine ⟨_, rfl, lenT ⟨a, rfl, s _ _ et⟩ rfl ⟨_, _, rfl, rfl, _, rfl, ?_⟩⟩
        rw [decide_eq_true (show (2 : Int) ≤ ((tv.length : Nat) : Int) by omega)]
        refine ⟨_, rfl, _, _, rfl, rfl, _, rfl, ?_⟩
        rw [decide_eq_true (show ((tv.length : Nat) : Int) ≤ (w : Int) by omega)]
        refine ⟨_, rfl, sz0, fun q hq => eqE ed hq (b := true) rfl (k _ (s.trans (Rs.Same.new hq)))⟩
abbrev N_law_padded : List Str := ["_law_lengths_here", "_law_ways", "_law_left", "_law_found", "_law_size"]
abbrev P_law_padded : List Str := ["_law_lengths_here", "_law_ways"]
def sp_law_padded (K : PySem.W.Frag) : Sp := fun vs H Q E => match vs with
  | [lv, wv] => ∃ (l : Addr) (ls : List Int) (w : Nat), lv = .ref l ∧ H l = some (.lst (ls.map V.int)) ∧ wv = .int (w : Int) ∧ 2 ≤ w ∧ w ≤ 1000 ∧ 1 ≤ ls.length ∧ ls.length ≤ 1000 ∧ (∀ x ∈ ls, 0 ≤ x) ∧ ∀ H', Same H H' → Q (.int (optI w ls)) H'
  | _ => False
def t_law_padded (K : PySem.W.Frag) (E : XK) : TS := (tSeq (tAsg (tCB1 (rSortedI K) (tOp rCat (tCB1 (xList K) (tVar 0)) (tOp rRep (tLst (tConsC (.int 0) tNil)) (tOp xMod (tOpD xSub (.int 1) (tCB1 (xLen K) (tVar 0))) (tOpC xSub (tVar 1) (.int 1)))))) (gName 2))
  (tSeq (tAsg (tC (.int 0)) (gName 3))
   (tSeq (tWhile (tTest (tOpC xGt (tCB1 (xLen K) (tVar 2)) (.int 1))) 
      (tSeq (tAsg (tCB1 (rSum K) (tSl (rSlL K) (tVar 2) tNoPart (tPart (tVar 1)))) (gName 4))
      (tSeq (tAsg (tOp xAdd (tVar 3) (tVar 4)) (gName 3))
       (tAsg (tCB1 (rSortedI K) (tOp rCat (tSl (rSlL K) (tVar 2) (tPart (tVar 1)) tNoPart) (tLst (tCons (tVar 4) tNil)))) (gName 2)))))
    (tRet (tVar 3)))))
/-- how many of no rows are beside -/
def pad (n w : Nat) : Nat := ((1 - (n : Int)) % ((w : Int) - 1)).toNat
theorem pad_hm {n w : Nat} (hw : 2 ≤ w) (hn : 2 ≤ n) : pad n w + hm n w = w := by
  unfold pad hm
  have e0 : (1 - (n : Int)) % ((w : Int) - 1) = ((w - 2 - (n - 2) % (w - 1) : Nat) : Int) := by
    have hr := Nat.mod_lt (n - 2) (show 0 < w - 1 by omega)
    have hd := Nat.div_add_mod (n - 2) (w - 1)
    generalize (n - 2) % (w - 1) = r at hr hd
    generalize (n - 2) / (w - 1) = q at hd
    have e : (1 - (n : Int)) = ((w - 2 - r : Nat) : Int) + ((w : Int) - 1) * (-(q : Int) - 1) := by
      have hd' : ((w : Int) - 1) * (q : Int) + (r : Int) = (n : Int) - 2 := by
        have : (((w - 1) * q + r : Nat) : Int) = ((n - 2 : Nat) : Int) := by rw [hd]
        rw [Int.natCast_add, Int.natCast_mul] at this
        rw [show ((w - 1 : Nat) : Int) = (w : Int) - 1 by omega] at this
        omega
      rw [Int.mul_sub, Int.mul_neg, Int.mul_one]
      omega
    rw [e, Int.add_mul_emod_self_left]
    exact Int.emod_eq_of_lt (by omega) (by omega)
  rw [e0]
  have hr := Nat.mod_lt (n - 2) (show 0 < w - 1 by omega)
  omega
theorem pad_one {w : Nat} (hw : 2 ≤ w) : pad 1 w = 0 := by
  unfold pad
  have : (1 - ((1 : Nat) : Int)) % ((w : Int) - 1) = 0 := by
    rw [show (1 : Int) - ((1 : Nat) : Int) = 0 by decide, Int.zero_emod]
  rw [this]
  rfl
/-- a row of lengths of which w are merged each time -/
def Full (w n : Nat) : Prop := n = 1 ∨ (2 ≤ n ∧ hm n w = w)
theorem Full.le {w n : Nat} (hw : 2 ≤ w) (h : Full w n) (hn : 2 ≤ n) : w ≤ n := by
  rcases h with h | ⟨_, h⟩
  · omega
  · have := (hm_le hn hw).2.1
    omega
theorem Full.step {w n : Nat} (hw : 2 ≤ w) (h : Full w n) (hn : 2 ≤ n) : Full w (n - w + 1) := by
  have l := h.le hw hn
  rcases h with h | ⟨_, h⟩
  · omega
  · by_cases z : n = w
    · left; omega
    · right
      refine ⟨by omega, ?_⟩
      unfold hm at h ⊢
      have e : n - 2 = (n - w + 1 - 2) + (w - 1) := by omega
      rw [e, Nat.add_mod_right] at h
      exact h
theorem full_pad {w n : Nat} (hw : 2 ≤ w) (hn : 1 ≤ n) : Full w (pad n w + n) := by
  by_cases z : n = 1
  · subst z
    rw [pad_one hw]
    left; rfl
  · right
    have e := pad_hm hw (show 2 ≤ n by omega)
    have hb := hm_le (show 2 ≤ n by omega) hw
    refine ⟨by omega, ?_⟩
    unfold hm at e hb ⊢
    have hr := Nat.mod_lt (n - 2) (show 0 < w - 1 by omega)
    have hd := Nat.div_add_mod (n - 2) (w - 1)
    generalize (n - 2) % (w - 1) = r at *
    generalize (n - 2) / (w - 1) = q at hd
    have e2 : pad n w + n - 2 = (w - 2) + (w - 1) * q := by omega
    rw [e2, Nat.add_mul_mod_self_left, Nat.mod_eq_of_lt (by omega)]
    omega
theorem zeros_srt {z : Nat} {ls : List Int} (h : ∀ x ∈ ls, 0 ≤ x) : srtI (ls ++ List.replicate z 0) = List.replicate z 0 ++ srtI ls := by
  refine srtI_of (List.perm_append_comm.trans (List.Perm.append_left _ (srtI_perm ls).symm)) ?_
  refine List.pairwise_append.mpr ⟨?_, srtI_up ls, fun x hx y hy => ?_⟩
  · refine List.pairwise_replicate.mpr (.inr (Int.le_refl _))
  · rw [List.eq_of_mem_replicate hx]
    exact h y ((srtI_perm ls).mem_iff.mp hy)
theorem zeros_sum (z : Nat) : (List.replicate z (0 : Int)).sum = 0 := by
  induction z with
  | zero => rfl
  | succ z ih => rw [List.replicate_succ, List.sum_cons, ih]; rfl
/-- with runs of no rows beside as many are moved -/
theorem padded_opt {w : Nat} (hw : 2 ≤ w) {ls : List Int} (h1 : 1 ≤ ls.length) (h : ∀ x ∈ ls, 0 ≤ x) : optI w (ls ++ List.replicate (pad ls.length w) 0) = optI w ls := by
  by_cases z : ls.length = 1
  · rw [z, pad_one hw, List.replicate_zero, List.append_nil]
  · have e := pad_hm hw (show 2 ≤ ls.length by omega)
    have F := full_pad hw h1
    have ln : (ls ++ List.replicate (pad ls.length w) (0 : Int)).length = pad ls.length w + ls.length := by
      rw [List.length_append, List.length_replicate]
      omega
    have hmw : hm (pad ls.length w + ls.length) w = w := by
      rcases F with F | ⟨_, F⟩
      · omega
      · exact F
    have hb := hm_le (show 2 ≤ ls.length by omega) hw
    rw [optI_step hw (by omega), optI_step hw (ls := ls) (by omega), ln, hmw, zeros_srt h]
    have t : (List.replicate (pad ls.length w) (0 : Int) ++ srtI ls).take w = List.replicate (pad ls.length w) 0 ++ (srtI ls).take (hm ls.length w) := by
      rw [List.take_append, List.length_replicate, List.take_of_length_le (by rw [List.length_replicate]; omega), show w - pad ls.length w = hm ls.length w by omega]
    have d : (List.replicate (pad ls.length w) (0 : Int) ++ srtI ls).drop w = (srtI ls).drop (hm ls.length w) := by
      rw [List.drop_append, List.length_replicate, List.drop_of_length_le (by rw [List.length_replicate]; omega), List.nil_append, show w - pad ls.length w = hm ls.length w by omega]
    rw [t, d, List.sum_append, zeros_sum, Int.zero_add]
theorem pure_law_padded {K : PySem.W.Frag} : ∀ vs H Q E, sp_law_padded K vs H Q E → t_law_padded K E { nx := fun _ H' => Q .non H', rt := Q } (start N_law_padded vs) H := by
  intro vs H Q E hyp
  match vs, hyp with
  | [lv, wv], hyp =>
    obtain ⟨l, ls, w, rfl, hl, rfl, w2, w1, n1, n2, hp, k⟩ := hyp
    have pw : pad ls.length w ≤ w := by
      by_cases z : ls.length = 1
      · rw [z, pad_one w2]; omega
      · have := pad_hm w2 (show 2 ≤ ls.length by omega); omega
    refine ⟨_, rfl, l, _, rfl, .inl (SqL.of hl), fun p hpn => ?_⟩
    refine ⟨szle (by show 1 ≤ 100000; decide), fun q hq => ?_⟩
    have hl1 : upd H p (.lst (ls.map V.int)) l = _ := un hl hpn
    have s1 : Same H (upd H p (.lst (ls.map V.int))) := Rs.Same.new hpn
    have ep : upd H p (.lst (ls.map V.int)) p = some _ := upd_same
    generalize upd H p (.lst (ls.map V.int)) = H1 at hl1 s1 ep hq ⊢
    have s2 : Same H1 (upd H1 q (.lst [.int 0])) := Rs.Same.new hq
    have eq : upd H1 q (.lst [.int 0]) q = some _ := upd_same
    generalize upd H1 q (.lst [.int 0]) = H2 at s2 eq ⊢
    refine ⟨_, rfl, lenL (s2 _ _ hl1) rfl ⟨_, _, rfl, rfl, _, rfl, _, _, rfl, rfl, _, _, rfl, rfl, by omega, ?_⟩⟩
    dsimp only
    have ez : ((1 - (((ls.map V.int).length : Nat) : Int)) % ((w : Int) - 1)).toNat = pad ls.length w := by
      unfold pad
      rw [List.length_map]
    refine ⟨q, _, _, rfl, rfl, eq, ?_, ?_, ?_, fun q2 hq2 => ?_⟩
    · have := Int.emod_nonneg (1 - (((ls.map V.int).length : Nat) : Int)) (show (w : Int) - 1 ≠ 0 by omega)
      omega
    · have := Int.emod_lt_of_pos (1 - (((ls.map V.int).length : Nat) : Int)) (show 0 < (w : Int) - 1 by omega)
      omega
    · rw [ez]
      refine szle ?_
      show 1 * pad ls.length w ≤ 100000
      omega
    rw [ez]
    have erep : (List.replicate (pad ls.length w) [V.int 0]).flatten = (List.replicate (pad ls.length w) (0 : Int)).map V.int := by
      rw [List.map_replicate]
      generalize pad ls.length w = z
      induction z with
      | zero => rfl
      | succ z ih => rw [List.replicate_succ, List.flatten_cons, ih, List.replicate_succ]; rfl
    rw [erep]
    have s3 : Same H2 (upd H2 q2 (.lst ((List.replicate (pad ls.length w) (0 : Int)).map V.int))) := Rs.Same.new hq2
    have eq2 : upd H2 q2 (.lst ((List.replicate (pad ls.length w) (0 : Int)).map V.int)) q2 = some _ := upd_same
    generalize upd H2 q2 (.lst ((List.replicate (pad ls.length w) (0 : Int)).map V.int)) = H3 at s3 eq2 ⊢
    refine ⟨p, q2, _, _, rfl, rfl, s3 _ _ (s2 _ _ ep), eq2, szle (by rw [List.length_map, List.length_map, List.length_replicate]; omega), fun q3 hq3 => ?_⟩
    rw [← List.map_append]
    have s4 : Same H3 (upd H3 q3 (.lst ((ls ++ List.replicate (pad ls.length w) (0 : Int)).map V.int))) := Rs.Same.new hq3
    have eq3 : upd H3 q3 (.lst ((ls ++ List.replicate (pad ls.length w) (0 : Int)).map V.int)) q3 = some _ := upd_same
    generalize upd H3 q3 (.lst ((ls ++ List.replicate (pad ls.length w) (0 : Int)).map V.int)) = H4 at s4 eq3 ⊢
    refine ⟨q3, _, rfl, SqL.of eq3, fun xs f pm up hf => ?_⟩
    have s04 := ((s1.trans s2).trans s3).trans s4
    have lx := pm.length_eq
    rw [List.length_append, List.length_replicate] at lx
    have F := full_pad w2 n1
    have o0 := padded_opt w2 n1 hp
    rw [← optI_perm pm] at o0
    refine ⟨fun m σ H' => ∃ (xs : List Int) (f : Addr) (found : Int) (x4 : Option V), m = xs.length ∧ σ = [some (.ref l), some (.int (w : Int)), some (.ref f), some (.int found), x4] ∧ H' f = some (.lst (xs.map V.int)) ∧ xs.Pairwise (· ≤ ·) ∧ Full w xs.length ∧ xs.length ≤ 2000 ∧ found + optI w xs = optI w ls ∧ Same H H',
      ⟨_, xs, f, 0, none, rfl, rfl, upd_same, up, by rw [lx, Nat.add_comm]; exact F, by omega, by omega, s04.trans (Rs.Same.new hf)⟩, ?_⟩
    clear pm up hf o0 F lx s04 eq3 s4 hq3 eq2 s3 hq2 eq s2 ep s1 hl1
    rintro m σ H5 ⟨xs, f, found, x4, rfl, rfl, ef, up, F, x2, o, s⟩
    refine ⟨_, rfl, lenL ef rfl ⟨_, _, rfl, rfl, _, rfl, ?_⟩⟩
    rw [List.length_map]
    by_cases c : 1 < xs.length
    · rw [decide_eq_true (show (1 : Int) < ((xs.length : Nat) : Int) by omega)]
      have wl := F.le w2 (by omega)
      have hmw : hm xs.length w = w := by
        rcases F with F | ⟨_, F⟩
        · omega
        · exact F
      have sx : srtI xs = xs := srtI_of (.refl _) up
      have ost := optI_step w2 (ls := xs) (by omega)
      rw [hmw, sx] at ost
      refine ⟨fun σ H' => ∃ (xs' : List Int) (f : Addr) (found : Int) (x4 : Option V), xs'.length < xs.length ∧ σ = [some (.ref l), some (.int (w : Int)), some (.ref f), some (.int found), x4] ∧ H' f = some (.lst (xs'.map V.int)) ∧ xs'.Pairwise (· ≤ ·) ∧ Full w xs'.length ∧ xs'.length ≤ 2000 ∧ found + optI w xs' = optI w ls ∧ Same H H', ?_, ?_⟩
      · rintro σ H' ⟨xs', f, found, x4, q1, q2⟩
        exact ⟨_, q1, xs', f, found, x4, rfl, q2⟩
      refine ⟨_, rfl, _, rfl, _, rfl, f, _, rfl, SqL.of ef, fun g hg => ?_⟩
      rw [cut_to (by rw [List.length_map]; omega), ← List.map_take]
      have s6 : Same H5 (upd H5 g (.lst ((xs.take w).map V.int))) := Rs.Same.new hg
      have eg : upd H5 g (.lst ((xs.take w).map V.int)) g = some _ := upd_same
      generalize upd H5 g (.lst ((xs.take w).map V.int)) = H6 at s6 eg ⊢
      refine ⟨g, _, rfl, SqL.of eg, ?_⟩
      refine ⟨_, rfl, _, rfl, _, _, rfl, rfl, ?_⟩
      refine ⟨_, rfl, _, rfl, _, rfl, f, _, rfl, SqL.of (s6 _ _ ef), fun g2 hg2 => ?_⟩
      rw [cut_from (by rw [List.length_map]; omega), ← List.map_drop]
      have s7 : Same H6 (upd H6 g2 (.lst ((xs.drop w).map V.int))) := Rs.Same.new hg2
      have eg2 : upd H6 g2 (.lst ((xs.drop w).map V.int)) g2 = some _ := upd_same
      generalize upd H6 g2 (.lst ((xs.drop w).map V.int)) = H7 at s7 eg2 ⊢
      refine ⟨_, rfl, szle (by show 1 ≤ 100000; decide), fun g3 hg3 => ?_⟩
      have s8 : Same H7 (upd H7 g3 (.lst [.int (xs.take w).sum])) := Rs.Same.new hg3
      have eg3 : upd H7 g3 (.lst [.int (xs.take w).sum]) g3 = some _ := upd_same
      generalize upd H7 g3 (.lst [.int (xs.take w).sum]) = H8 at s8 eg3 ⊢
      refine ⟨g2, g3, _, _, rfl, rfl, s8 _ _ eg2, eg3, szle (by rw [List.length_map, List.length_drop]; show xs.length - w + 1 ≤ 100000; omega), fun g4 hg4 => ?_⟩
      have e9 : (xs.drop w).map V.int ++ [V.int (xs.take w).sum] = (xs.drop w ++ [(xs.take w).sum]).map V.int := by rw [List.map_append]; rfl
      rw [e9]
      refine ⟨g4, _, rfl, SqL.of upd_same, fun xs' f' pm up' hf' => ?_⟩
      have l' := pm.length_eq
      rw [List.length_append, List.length_drop, List.length_singleton] at l'
      refine ⟨xs', f', _, _, by omega, rfl, upd_same, up', ?_, by omega, ?_, ((((s.trans s6).trans s7).trans s8).trans (Rs.Same.new hg4)).trans (Rs.Same.new hf')⟩
      · rw [l']
        exact F.step w2 (by omega)
      · rw [optI_perm pm]
        omega
    · rw [decide_eq_false (show ¬ (1 : Int) < ((xs.length : Nat) : Int) by omega)]
      have x1 : xs.length = 1 := by
        rcases F with F | ⟨F, _⟩
        · exact F
        · omega
      rw [optI_one x1] at o
      refine ⟨_, rfl, ?_⟩
      have : found = optI w ls := by omega
      rw [this]
      exact k H5 s
end Rs

namespace Rs
open PySem PySem.Spec PyProof.Rows L2
/-! ### plans of neighbours: no plan moves fewer -/
mutual
def Pl.wc : Pl → Int
  | .leaf _ => 0
  | .node ps => (Pl.runsL ps).sum + Pl.wcL ps
def Pl.wcL : List Pl → Int
  | [] => 0
  | p :: ps => p.wc + Pl.wcL ps
end
mutual
def Pl.sub (f : Int → Int) : Pl → Pl
  | .leaf n => .leaf (f n)
  | .node ps => .node (Pl.subL f ps)
def Pl.subL (f : Int → Int) : List Pl → List Pl
  | [] => []
  | p :: ps => p.sub f :: Pl.subL f ps
end
theorem Pl.subL_len (f : Int → Int) : ∀ ps, (Pl.subL f ps).length = ps.length
  | [] => rfl
  | p :: ps => by rw [Pl.subL, List.length_cons, Pl.subL_len f ps, List.length_cons]
mutual
theorem Pl.sub_runs (f : Int → Int) : ∀ p : Pl, (p.sub f).runs = p.runs.map f
  | .leaf n => by rw [Pl.sub, Pl.runs, Pl.runs]; rfl
  | .node ps => by rw [Pl.sub, Pl.runs, Pl.runs]; exact Pl.subL_runs f ps
theorem Pl.subL_runs (f : Int → Int) : ∀ ps : List Pl, Pl.runsL (Pl.subL f ps) = (Pl.runsL ps).map f
  | [] => rfl
  | p :: ps => by rw [Pl.subL, Pl.runsL, Pl.runsL, Pl.sub_runs f p, Pl.subL_runs f ps, List.map_append]
end
mutual
theorem Pl.sub_fits (f : Int → Int) {w : Nat} : ∀ p : Pl, (p.sub f).fits w = p.fits w
  | .leaf n => by rw [Pl.sub, Pl.fits, Pl.fits]
  | .node ps => by rw [Pl.sub, Pl.fits, Pl.fits, Pl.subL_len, Pl.subL_fits f ps]
theorem Pl.subL_fits (f : Int → Int) {w : Nat} : ∀ ps : List Pl, Pl.fitsL w (Pl.subL f ps) = Pl.fitsL w ps
  | [] => rfl
  | p :: ps => by rw [Pl.subL, Pl.fitsL, Pl.fitsL, Pl.sub_fits f p, Pl.subL_fits f ps]
end
mutual
theorem Pl.sub_wc (ls : List Int) : ∀ p : Pl, (p.sub fun r => ls.getD r.toNat 0).wc = p.cost ls
  | .leaf n => by rw [Pl.sub, Pl.wc, Pl.cost]
  | .node ps => by
    rw [Pl.sub, Pl.wc, Pl.cost, Pl.subL_runs, Pl.subL_wc ls ps]
    rfl
theorem Pl.subL_wc (ls : List Int) : ∀ ps : List Pl, Pl.wcL (Pl.subL (fun r => ls.getD r.toNat 0) ps) = Pl.costL ls ps
  | [] => rfl
  | p :: ps => by rw [Pl.subL, Pl.wcL, Pl.costL, Pl.sub_wc ls p, Pl.subL_wc ls ps]
end
/-- v is the fewest that a plan of neighbours moves of runs of these lengths -/
structure NOpt (w : Nat) (ls : List Int) (v : Int) : Prop where
  got : ∃ pl : Pl, pl.fits w = true ∧ pl.runs = ls ∧ pl.wc = v
  min : ∀ pl : Pl, pl.fits w = true → pl.runs = ls → v ≤ pl.wc
theorem NOpt.uniq {w : Nat} {ls : List Int} {u v : Int} (a : NOpt w ls u) (b : NOpt w ls v) : u = v := by
  obtain ⟨p, p1, p2, p3⟩ := a.got
  obtain ⟨q, q1, q2, q3⟩ := b.got
  have := a.min q q1 q2
  have := b.min p p1 p2
  omega
theorem Pl.runs_pos {w : Nat} (p : Pl) (f : p.fits w = true) : 1 ≤ p.runs.length := by
  have := Pl.deep p f
  omega
theorem Pl.one_leaf {w : Nat} {p : Pl} {x : Int} (f : p.fits w = true) (h : p.runs = [x]) : p = .leaf x := by
  cases p with
  | leaf n =>
    rw [Pl.runs] at h
    injection h with h
    rw [h]
  | node ps =>
    exfalso
    rw [Pl.fits] at f
    simp only [Bool.and_eq_true, decide_eq_true_eq] at f
    have := Pl.deepL ps f.2
    rw [Pl.runs] at h
    rw [h, List.length_singleton] at this
    omega
theorem nopt_one {w : Nat} (x : Int) : NOpt w [x] 0 := ⟨⟨.leaf x, rfl, rfl, rfl⟩, fun p f h => by
  rw [Pl.one_leaf f h, Pl.wc]
  exact Int.le_refl _⟩
/-! a first merge done, and undone -/
theorem leaves_runs : ∀ M : List Int, Pl.runsL (M.map Pl.leaf) = M
  | [] => rfl
  | x :: M => by rw [List.map_cons, Pl.runsL, leaves_runs M, Pl.runs]; rfl
theorem leaves_fits {w : Nat} : ∀ M : List Int, Pl.fitsL w (M.map Pl.leaf) = true
  | [] => rfl
  | x :: M => by rw [List.map_cons, Pl.fitsL, leaves_fits M, Pl.fits]; rfl
theorem leaves_wc : ∀ M : List Int, Pl.wcL (M.map Pl.leaf) = 0
  | [] => rfl
  | x :: M => by rw [List.map_cons, Pl.wcL, leaves_wc M, Pl.wc]; rfl
theorem sum_swap (A M B : List Int) : (A ++ M ++ B).sum = (A ++ [M.sum] ++ B).sum := by
  simp only [List.sum_append, List.sum_cons, List.sum_nil]
  omega
mutual
theorem Pl.undo {w : Nat} {M : List Int} (m2 : 2 ≤ M.length) (mw : M.length ≤ w) : ∀ (p : Pl) (A B : List Int), p.fits w = true → p.runs = A ++ [M.sum] ++ B → ∃ q : Pl, q.fits w = true ∧ q.runs = A ++ M ++ B ∧ q.wc = p.wc + M.sum
  | .leaf n, A, B, _, h => by
    rw [Pl.runs] at h
    have hl := congrArg List.length h
    rw [List.length_append, List.length_append, List.length_singleton, List.length_singleton] at hl
    have a0 : A = [] := List.eq_nil_of_length_eq_zero (by omega)
    have b0 : B = [] := List.eq_nil_of_length_eq_zero (by omega)
    subst a0 b0
    refine ⟨.node (M.map Pl.leaf), ?_, ?_, ?_⟩
    · rw [Pl.fits, leaves_fits, List.length_map, decide_eq_true m2, decide_eq_true mw]
      rfl
    · rw [Pl.runs, leaves_runs, List.append_nil]
      rfl
    · have e1 : (Pl.node (M.map Pl.leaf)).wc = (Pl.runsL (M.map Pl.leaf)).sum + Pl.wcL (M.map Pl.leaf) := by rw [Pl.wc]
      have e2 : (Pl.leaf n).wc = 0 := by rw [Pl.wc]
      rw [e1, leaves_runs, leaves_wc, e2]
      omega
  | .node ps, A, B, f, h => by
    rw [Pl.fits] at f
    simp only [Bool.and_eq_true, decide_eq_true_eq] at f
    rw [Pl.runs] at h
    obtain ⟨qs, l, q1, q2, q3⟩ := Pl.undoL m2 mw ps A B f.2 h
    refine ⟨.node qs, ?_, ?_, ?_⟩
    · rw [Pl.fits, q1, l, decide_eq_true f.1.1, decide_eq_true f.1.2]
      rfl
    · rw [Pl.runs, q2]
    · have sw := sum_swap A M B
      rw [Pl.wc, Pl.wc, q2, h, q3]
      omega
theorem Pl.undoL {w : Nat} {M : List Int} (m2 : 2 ≤ M.length) (mw : M.length ≤ w) : ∀ (ps : List Pl) (A B : List Int), Pl.fitsL w ps = true → Pl.runsL ps = A ++ [M.sum] ++ B → ∃ qs : List Pl, qs.length = ps.length ∧ Pl.fitsL w qs = true ∧ Pl.runsL qs = A ++ M ++ B ∧ Pl.wcL qs = Pl.wcL ps + M.sum
  | [], A, B, _, h => by
    have hl := congrArg List.length h
    rw [Pl.runsL, List.length_append, List.length_append, List.length_singleton, List.length_nil] at hl
    omega
  | p :: ps, A, B, f, h => by
    rw [Pl.fitsL] at f
    simp only [Bool.and_eq_true] at f
    rw [Pl.runsL, List.append_assoc] at h
    rcases List.append_eq_append_iff.mp h with ⟨A2, e1, e2⟩ | ⟨C, e1, e2⟩
    · -- in the others
      obtain ⟨qs, l, q1, q2, q3⟩ := Pl.undoL m2 mw ps A2 B f.2 (by rw [e2, List.append_assoc])
      refine ⟨p :: qs, by rw [List.length_cons, l, List.length_cons], ?_, ?_, ?_⟩
      · rw [Pl.fitsL, f.1, q1]; rfl
      · rw [Pl.runsL, q2, e1, List.append_assoc, List.append_assoc, List.append_assoc]
      · rw [Pl.wcL, Pl.wcL, q3]; omega
    · cases C with
      | nil =>
        rw [List.append_nil] at e1
        have e2 : [M.sum] ++ B = Pl.runsL ps := e2
        obtain ⟨qs, l, q1, q2, q3⟩ := Pl.undoL m2 mw ps [] B f.2 e2.symm
        refine ⟨p :: qs, by rw [List.length_cons, l, List.length_cons], ?_, ?_, ?_⟩
        · rw [Pl.fitsL, f.1, q1]; rfl
        · rw [Pl.runsL, q2, e1, List.nil_append, List.append_assoc]
        · rw [Pl.wcL, Pl.wcL, q3]; omega
      | cons c C =>
        have e2 : M.sum :: B = c :: (C ++ Pl.runsL ps) := e2
        injection e2 with e3 e4
        obtain ⟨q, q1, q2, q3⟩ := Pl.undo m2 mw p A C f.1 (by rw [e1, e3, List.append_assoc]; rfl)
        refine ⟨q :: ps, rfl, ?_, ?_, ?_⟩
        · rw [Pl.fitsL, q1, f.2]; rfl
        · rw [Pl.runsL, q2, e4, List.append_assoc, List.append_assoc]
        · rw [Pl.wcL, Pl.wcL, q3]; omega
end
/-- a plan of more than one run begins with a merge of neighbours -/
def Begins (w : Nat) (R : List Int) (c : Int) (pl' : List Int → Int → Prop) : Prop := ∃ A M B : List Int, 2 ≤ M.length ∧ M.length ≤ w ∧ R = A ++ M ++ B ∧ pl' (A ++ [M.sum] ++ B) (c - M.sum)
mutual
theorem Pl.first_merge {w : Nat} : ∀ p : Pl, p.fits w = true → 2 ≤ p.runs.length → Begins w p.runs p.wc fun R c => ∃ q : Pl, q.fits w = true ∧ q.runs = R ∧ q.wc = c
  | .leaf n, _, h => by rw [Pl.runs] at h; simp at h
  | .node ps, f, h => by
    rw [Pl.fits] at f
    simp only [Bool.and_eq_true, decide_eq_true_eq] at f
    rw [Pl.runs] at h ⊢
    rcases Pl.first_mergeL ps f.2 with e | ⟨A, M, B, m2, mw, eR, qs, l, q1, q2, q3⟩
    · refine ⟨[], Pl.runsL ps, [], h, ?_, by rw [List.append_nil]; rfl, .leaf (Pl.runsL ps).sum, rfl, rfl, ?_⟩
      · have : (Pl.runsL ps).length = ps.length := by rw [e, leaves_runs, List.length_map]
        omega
      · have : Pl.wcL ps = 0 := by rw [e]; exact leaves_wc _
        rw [Pl.wc, Pl.wc, this]
        omega
    · refine ⟨A, M, B, m2, mw, eR, .node qs, ?_, ?_, ?_⟩
      · rw [Pl.fits, q1, l, decide_eq_true f.1.1, decide_eq_true f.1.2]
        rfl
      · rw [Pl.runs, q2]
      · have sw := sum_swap A M B
        rw [Pl.wc, Pl.wc, q2, eR, q3]
        omega
theorem Pl.first_mergeL {w : Nat} : ∀ ps : List Pl, Pl.fitsL w ps = true → (ps = (Pl.runsL ps).map Pl.leaf) ∨ Begins w (Pl.runsL ps) (Pl.wcL ps) fun R c => ∃ qs : List Pl, qs.length = ps.length ∧ Pl.fitsL w qs = true ∧ Pl.runsL qs = R ∧ Pl.wcL qs = c
  | [], _ => .inl rfl
  | p :: ps, f => by
    rw [Pl.fitsL] at f
    simp only [Bool.and_eq_true] at f
    rw [Pl.runsL]
    by_cases h : 2 ≤ p.runs.length
    · obtain ⟨A, M, B, m2, mw, eR, q, q1, q2, q3⟩ := Pl.first_merge p f.1 h
      refine .inr ⟨A, M, B ++ Pl.runsL ps, m2, mw, by rw [eR, List.append_assoc], q :: ps, rfl, ?_, ?_, ?_⟩
      · rw [Pl.fitsL, q1, f.2]; rfl
      · rw [Pl.runsL, q2, List.append_assoc]
      · rw [Pl.wcL, Pl.wcL, q3]; omega
    · have p1 := Pl.runs_pos p f.1
      obtain ⟨x, hx⟩ := List.length_eq_one_iff.mp (by omega : p.runs.length = 1)
      have ep := Pl.one_leaf f.1 hx
      rcases Pl.first_mergeL ps f.2 with e | ⟨A, M, B, m2, mw, eR, qs, l, q1, q2, q3⟩
      · left
        rw [List.map_append, ← e, hx, ep]
        rfl
      · refine .inr ⟨p.runs ++ A, M, B, m2, mw, by rw [eR, List.append_assoc, List.append_assoc, List.append_assoc], p :: qs, by rw [List.length_cons, l, List.length_cons], ?_, ?_, ?_⟩
        · rw [Pl.fitsL, f.1, q1]; rfl
        · rw [Pl.runsL, q2, List.append_assoc, List.append_assoc, List.append_assoc]
        · rw [Pl.wcL, Pl.wcL, q3]; omega
end
/-- one first merge, then the best: no fewer -/
theorem nopt_choice {w : Nat} {A M B : List Int} {u v : Int} (m2 : 2 ≤ M.length) (mw : M.length ≤ w) (h : NOpt w (A ++ M ++ B) u) (h' : NOpt w (A ++ [M.sum] ++ B) v) : u ≤ M.sum + v := by
  obtain ⟨p, p1, p2, p3⟩ := h'.got
  obtain ⟨q, q1, q2, q3⟩ := Pl.undo m2 mw p A B p1 p2
  have := h.min q q1 q2
  omega
/-- the fewest of all first merges is the fewest -/
theorem nopt_of {w : Nat} {ls : List Int} (h2 : 2 ≤ ls.length) {m : Int} (h1 : ∃ A M B v, 2 ≤ M.length ∧ M.length ≤ w ∧ ls = A ++ M ++ B ∧ NOpt w (A ++ [M.sum] ++ B) v ∧ m = M.sum + v)
    (hm : ∀ A M B v, 2 ≤ M.length → M.length ≤ w → ls = A ++ M ++ B → NOpt w (A ++ [M.sum] ++ B) v → m ≤ M.sum + v) (ex : ∀ A M B, 2 ≤ M.length → M.length ≤ w → ls = A ++ M ++ B → ∃ v, NOpt w (A ++ [M.sum] ++ B) v) : NOpt w ls m := by
  refine ⟨?_, fun pl f hr => ?_⟩
  · obtain ⟨A, M, B, v, m2, mw, e, n, em⟩ := h1
    obtain ⟨p, p1, p2, p3⟩ := n.got
    obtain ⟨q, q1, q2, q3⟩ := Pl.undo m2 mw p A B p1 p2
    exact ⟨q, q1, by rw [q2, e], by rw [q3, p3, em]; omega⟩
  · obtain ⟨A, M, B, m2, mw, eR, q, q1, q2, q3⟩ := Pl.first_merge pl f (by rw [hr]; exact h2)
    rw [hr] at eR
    obtain ⟨v, n⟩ := ex A M B m2 mw eR
    have a := hm A M B v m2 mw eR n
    have b := n.min q q1 q2
    omega
/-! turned about -/
mutual
def Pl.rev : Pl → Pl
  | .leaf n => .leaf n
  | .node ps => .node (Pl.revL ps)
def Pl.revL : List Pl → List Pl
  | [] => []
  | p :: ps => Pl.revL ps ++ [p.rev]
end
theorem Pl.revL_len : ∀ ps : List Pl, (Pl.revL ps).length = ps.length
  | [] => rfl
  | p :: ps => by rw [Pl.revL, List.length_append, Pl.revL_len ps]; rfl
theorem fitsL_app {w : Nat} (a b : List Pl) : Pl.fitsL w (a ++ b) = (Pl.fitsL w a && Pl.fitsL w b) := by
  rw [Pl.fitsL_all, Pl.fitsL_all, Pl.fitsL_all, List.all_append]
theorem wcL_app : ∀ a b : List Pl, Pl.wcL (a ++ b) = Pl.wcL a + Pl.wcL b
  | [], b => by show Pl.wcL b = 0 + Pl.wcL b; omega
  | p :: a, b => by
    show p.wc + Pl.wcL (a ++ b) = p.wc + Pl.wcL a + Pl.wcL b
    rw [wcL_app a b]
    omega
mutual
theorem Pl.rev_all {w : Nat} : ∀ p : Pl, p.rev.runs = p.runs.reverse ∧ p.rev.fits w = p.fits w ∧ p.rev.wc = p.wc
  | .leaf n => by rw [Pl.rev, Pl.runs]; exact ⟨rfl, rfl, rfl⟩
  | .node ps => by
    obtain ⟨a, b, c⟩ := Pl.revL_all (w := w) ps
    rw [Pl.rev, Pl.runs, Pl.runs, Pl.fits, Pl.fits, Pl.wc, Pl.wc, a, b, c, Pl.revL_len]
    refine ⟨rfl, rfl, ?_⟩
    rw [isum_perm (List.reverse_perm (Pl.runsL ps))]
theorem Pl.revL_all {w : Nat} : ∀ ps : List Pl, Pl.runsL (Pl.revL ps) = (Pl.runsL ps).reverse ∧ Pl.fitsL w (Pl.revL ps) = Pl.fitsL w ps ∧ Pl.wcL (Pl.revL ps) = Pl.wcL ps
  | [] => ⟨rfl, rfl, rfl⟩
  | p :: ps => by
    obtain ⟨a, b, c⟩ := Pl.revL_all (w := w) ps
    obtain ⟨d, e, f⟩ := Pl.rev_all (w := w) p
    rw [Pl.revL, Pl.runsL, Pl.fitsL, Pl.wcL, runsL_app, fitsL_app, wcL_app, a, b, c]
    refine ⟨?_, ?_, ?_⟩
    · rw [Pl.runsL, Pl.runsL, List.append_nil, d, List.reverse_append]
    · rw [Pl.fitsL, Pl.fitsL, e, Bool.and_true, Bool.and_comm]
    · rw [Pl.wcL, Pl.wcL, f]
      omega
end
theorem NOpt.rev {w : Nat} {ls : List Int} {v : Int} (h : NOpt w ls v) : NOpt w ls.reverse v := by
  obtain ⟨p, p1, p2, p3⟩ := h.got
  obtain ⟨a, b, c⟩ := Pl.rev_all (w := w) p
  refine ⟨⟨p.rev, by rw [b, p1], by rw [a, p2], by rw [c, p3]⟩, fun q f hr => ?_⟩
  obtain ⟨a, b, c⟩ := Pl.rev_all (w := w) q
  have := h.min q.rev (by rw [b, f]) (by rw [a, hr, List.reverse_reverse])
  omega
end Rs

namespace Rs
open PySem PySem.Spec PyProof.Rows L2
theorem segL_len {ls : List Int} {b e : Int} (h0 : 0 ≤ b) (h1 : b ≤ e) (h2 : e ≤ ls.length) : ((segL ls b e).length : Int) = e - b := by
  unfold segL
  rw [List.length_take, List.length_drop]
  omega
theorem segL_app {ls : List Int} {b p e : Int} (h0 : 0 ≤ b) (h1 : b ≤ p) (h2 : p ≤ e) : segL ls b p ++ segL ls p e = segL ls b e := by
  unfold segL
  have e1 : e.toNat - b.toNat = (p.toNat - b.toNat) + (e.toNat - p.toNat) := by omega
  rw [e1, List.take_add, List.drop_drop, show b.toNat + (p.toNat - b.toNat) = p.toNat by omega]
theorem segL_all (ls : List Int) : segL ls 0 (ls.length : Int) = ls := by
  unfold segL
  show (ls.drop 0).take _ = ls
  rw [List.drop_zero, List.take_of_length_le (by omega)]
theorem segL_one {ls : List Int} {b : Int} (h0 : 0 ≤ b) (h1 : b + 1 ≤ ls.length) : ∃ x, segL ls b (b + 1) = [x] := by
  have := segL_len (ls := ls) h0 (show b ≤ b + 1 by omega) h1
  exact List.length_eq_one_iff.mp (by omega)
theorem segL_rng {ls : List Int} {b e : Int} (h0 : 0 ≤ b) (h1 : b ≤ e) (h2 : e ≤ ls.length) : (rng b e).map (fun r => ls.getD r.toNat 0) = segL ls b e := by
  unfold rng segL
  rw [List.map_map]
  refine List.ext_getElem? fun i => ?_
  rw [List.getElem?_map]
  by_cases h : i < (e - b).toNat
  · rw [List.getElem?_range h, List.getElem?_take_of_lt (by omega), List.getElem?_drop, List.getElem?_eq_getElem (by omega)]
    show some (ls.getD (b + (i : Int)).toNat 0) = _
    have e1 : (b + (i : Int)).toNat = b.toNat + i := by omega
    rw [e1, getD_lt (by omega)]
  · rw [List.getElem?_eq_none (by rw [List.length_range]; omega), List.getElem?_eq_none (by rw [List.length_take, List.length_drop]; omega)]
    rfl
section
variable {w : Nat} {ls : List Int} {c : Int → Int → Int}
theorem cut_lower {e : Int} (he : e ≤ ls.length) : ∀ (ps : List Pl) (b b0 : Int), Pl.fitsL w ps = true → 0 ≤ b0 → b0 ≤ b → b ≤ e → Pl.runsL ps = segL ls b e → (b0 < b ∨ 2 ≤ ps.length) →
    (∀ b' e', b0 ≤ b' → b' < e' → e' ≤ e → (b0 < b' ∨ e' < e) → NOpt w (segL ls b' e') (c b' e')) → ∃ qs, Asc b qs e ∧ qs.length = ps.length ∧ cutSum c b qs ≤ Pl.wcL ps
  | [], b, b0, _, h0, h1, h2, hr, _, _ => by
    have := segL_len (ls := ls) (show 0 ≤ b by omega) h2 he
    rw [← hr] at this
    have : b = e := by
      rw [Pl.runsL, List.length_nil] at this
      omega
    exact ⟨[], this, rfl, by rw [Pl.wcL]; exact Int.le_refl _⟩
  | p :: ps, b, b0, f, h0, h1, h2, hr, hs, H => by
    rw [Pl.fitsL] at f
    simp only [Bool.and_eq_true] at f
    have k1 := Pl.runs_pos p f.1
    have ls1 := segL_len (ls := ls) (show 0 ≤ b by omega) h2 he
    rw [← hr, Pl.runsL, List.length_append] at ls1
    have dl := Pl.deepL ps f.2
    have hb' : b + (p.runs.length : Int) ≤ e := by omega
    have ap := segL_app (ls := ls) (show 0 ≤ b by omega) (show b ≤ b + (p.runs.length : Int) by omega) hb'
    have l1 := segL_len (ls := ls) (show 0 ≤ b by omega) (show b ≤ b + (p.runs.length : Int) by omega) (by omega)
    rw [← ap, Pl.runsL] at hr
    obtain ⟨e1, e2⟩ := List.append_inj hr (by omega)
    have sm : b0 < b ∨ b + (p.runs.length : Int) < e := by
      rcases hs with z | z
      · exact .inl z
      · right
        rw [List.length_cons] at z
        omega
    have n1 := (H b (b + (p.runs.length : Int)) h1 (by omega) hb' sm).min p f.1 e1
    obtain ⟨qs, q1, q2, q3⟩ := cut_lower he ps (b + (p.runs.length : Int)) b0 f.2 h0 (by omega) hb' e2 (.inl (by omega)) H
    refine ⟨(b + (p.runs.length : Int)) :: qs, ⟨by omega, q1⟩, by rw [List.length_cons, q2, List.length_cons], ?_⟩
    rw [Pl.wcL]
    show c b (b + (p.runs.length : Int)) + cutSum c (b + (p.runs.length : Int)) qs ≤ _
    omega
theorem cut_tree {e : Int} (he : e ≤ ls.length) : ∀ (ps : List Int) (b b0 : Int), 0 ≤ b0 → b0 ≤ b → Asc b ps e → (b0 < b ∨ 2 ≤ ps.length) →
    (∀ b' e', b0 ≤ b' → b' < e' → e' ≤ e → (b0 < b' ∨ e' < e) → NOpt w (segL ls b' e') (c b' e')) → ∃ qs : List Pl, qs.length = ps.length ∧ Pl.fitsL w qs = true ∧ Pl.runsL qs = segL ls b e ∧ Pl.wcL qs = cutSum c b ps
  | [], b, b0, h0, h1, a, _, _ => by
    have a : b = e := a
    subst a
    have := segL_len (ls := ls) (show 0 ≤ b by omega) (Int.le_refl b) he
    have z : segL ls b b = [] := List.eq_nil_of_length_eq_zero (by omega)
    exact ⟨[], rfl, rfl, z.symm, rfl⟩
  | p :: ps, b, b0, h0, h1, a, hs, H => by
    have a1 := a.1
    have al := asc_le a.2
    have sm : b0 < b ∨ p < e := by
      rcases hs with z | z
      · exact .inl z
      · right
        rw [List.length_cons] at z
        omega
    obtain ⟨t, t1, t2, t3⟩ := (H b p h1 a1 (by omega) sm).got
    obtain ⟨qs, q0, q1, q2, q3⟩ := cut_tree he ps p b0 h0 (by omega) a.2 (.inl (by omega)) H
    refine ⟨t :: qs, by rw [List.length_cons, q0, List.length_cons], by rw [Pl.fitsL, t1, q1]; rfl, ?_, by rw [Pl.wcL, t3, q3]; rfl⟩
    rw [Pl.runsL, t2, q2]
    exact segL_app (by omega) (by omega) (by omega)
theorem nopt_cut {b e s : Int} {ps : List Int} (h0 : 0 ≤ b) (h1 : b + 2 ≤ e) (he : e ≤ ls.length) (B : BestCut c b e w s ps) (H : ∀ b' e', b ≤ b' → b' < e' → e' ≤ e → (b < b' ∨ e' < e) → NOpt w (segL ls b' e') (c b' e')) : NOpt w (segL ls b e) (s + (segL ls b e).sum) := by
  have l := segL_len (ls := ls) h0 (show b ≤ e by omega) he
  refine ⟨?_, fun pl f hr => ?_⟩
  · obtain ⟨qs, q0, q1, q2, q3⟩ := cut_tree he ps b b h0 (Int.le_refl _) B.asc (.inr B.two) H
    have b2 := B.two
    have b3 := B.le
    refine ⟨.node qs, ?_, by rw [Pl.runs, q2], ?_⟩
    · rw [Pl.fits, q0, q1, decide_eq_true b2, decide_eq_true b3]
      rfl
    · rw [Pl.wc, q2, q3, ← B.sum]
      omega
  · cases pl with
    | leaf n =>
      rw [Pl.runs] at hr
      rw [← hr, List.length_singleton] at l
      omega
    | node qs =>
      rw [Pl.fits] at f
      simp only [Bool.and_eq_true, decide_eq_true_eq] at f
      rw [Pl.runs] at hr
      obtain ⟨rs, r1, r2, r3⟩ := cut_lower he qs b b f.2 h0 (Int.le_refl _) (by omega) hr (.inr f.1.1) H
      have := B.min rs r1 (by rw [r2]; exact f.1.1) (by rw [r2]; exact f.1.2)
      rw [Pl.wc, hr]
      omega
end
theorem cOf_one {ls : List Int} {w : Nat} {cl : Costs} {el : Int → Int → List Int} (N : NbOk (stretchL ls.length) ls w cl el) (b : Int) : cOf cl b (b + 1) = 0 := by
  have : cLook cl b (b + 1) = none := look_none (by
    rw [N.keys]
    intro z
    have := (stretch_mem.mp z).2.1
    have this : b + 2 ≤ b + 1 := this
    omega)
  unfold cOf
  rw [this]
  rfl
theorem nopt_dp {ls : List Int} {w : Nat} {cl : Costs} {el : Int → Int → List Int} (N : NbOk (stretchL ls.length) ls w cl el) : ∀ (d : Nat) (b e : Int), 0 ≤ b → b < e → e ≤ ls.length → e - b ≤ d → NOpt w (segL ls b e) (cOf cl b e)
  | 0, b, e, _, h, _, h2 => by omega
  | d + 1, b, e, h0, h, h1, h2 => by
    by_cases e1 : e = b + 1
    · subst e1
      obtain ⟨x, hx⟩ := segL_one (ls := ls) h0 h1
      rw [cOf_one N, hx]
      exact nopt_one x
    · obtain ⟨s, B, es⟩ := N.best b e (stretch_mem.mpr ⟨h0, by show b + 2 ≤ e; omega, h1⟩)
      rw [es]
      exact nopt_cut h0 (by omega) h1 B fun b' e' z1 z2 z3 z4 => nopt_dp N d b' e' (by omega) z2 (by omega) (by omega)
theorem nopt_all {ls : List Int} {w : Nat} {cl : Costs} {el : Int → Int → List Int} (N : NbOk (stretchL ls.length) ls w cl el) (h : 1 ≤ ls.length) : NOpt w ls (cOf cl 0 (ls.length : Int)) := by
  have := nopt_dp N ls.length 0 (ls.length : Int) (Int.le_refl _) (by omega) (Int.le_refl _) (by omega)
  rwa [segL_all] at this
theorem plParts_cost {ls : List Int} {c : Int → Int → Int} {g : Int → Int → Pl} : ∀ (ps : List Int) (b e : Int), Asc b ps e → (∀ p q, b ≤ p → p < q → q ≤ e → (b < p ∨ q < e ∨ ps.length = 1) → (g p q).cost ls = c p q) → Pl.costL ls (plParts g b ps) = cutSum c b ps
  | [], b, e, _, _ => rfl
  | p :: ps, b, e, a, h => by
    have l := asc_le a.2
    have a1 := a.1
    have g1 := h b p (Int.le_refl _) a1 (by omega) (by
      cases ps with
      | nil => exact .inr (.inr rfl)
      | cons q ps => exact .inr (.inl (by rw [List.length_cons] at l; omega)))
    have ih := plParts_cost (ls := ls) (c := c) (g := g) ps p e a.2 fun p' q' h1 h2 h3 _ => h p' q' (by omega) h2 h3 (.inl (by omega))
    show (g b p).cost ls + Pl.costL ls (plParts g p ps) = c b p + cutSum c p ps
    rw [g1, ih]
theorem plOf_cost {ls : List Int} {w : Nat} {cl : Costs} {el : Int → Int → List Int} (N : NbOk (stretchL ls.length) ls w cl el) (E : EndsOk ls.length w el) : ∀ (d : Nat) (b e : Int), 0 ≤ b → b < e → e ≤ ls.length → e - b ≤ d → (plOf el d b e).cost ls = cOf cl b e
  | 0, b, e, _, h, _, h2 => by omega
  | d + 1, b, e, h0, h, h1, h2 => by
    have ok := plOf_ok E (d + 1) b e h0 h h1 h2
    unfold plOf at ok ⊢
    by_cases e1 : e - b = 1
    · rw [if_pos e1]
      have : e = b + 1 := by omega
      subst this
      rw [cOf_one N, Pl.cost]
    · rw [if_neg e1] at ok ⊢
      obtain ⟨s, B, es⟩ := N.best b e (stretch_mem.mpr ⟨h0, by show b + 2 ≤ e; omega, h1⟩)
      have b2 := B.two
      have pc := plParts_cost (ls := ls) (c := cOf cl) (g := plOf el d) (el b e) b e B.asc fun p q z1 z2 z3 z4 => plOf_cost N E d p q (by omega) z2 (by omega) (by omega)
      have r := ok.1
      rw [Pl.runs] at r
      rw [Pl.cost, pc, r, es, B.sum]
      have : sumOf ls (rng b e) = (segL ls b e).sum := by
        unfold sumOf
        rw [segL_rng h0 (by omega) h1]
      rw [this]
      omega
end Rs

namespace Rs
open PySem PySem.Spec PyProof.Rows L2
abbrev N_paper : List Str := ["lengths", "ways", "costs", "begin", "end"]
abbrev P_paper : List Str := ["lengths", "ways"]
/-- (begin, end, number) -/
def TripAt : Rel ((Int × Int) × Int) := fun H v q => IsTp H v [.int q.1.1, .int q.1.2, .int q.2]
theorem TripAt.st : Stable TripAt := fun _ _ _ _ t h => IsTp.mono t h
def sp_paper (K : PySem.W.Frag) : Sp := fun vs H Q E => match vs with
  | [lv, wv] => ∃ (l : Addr) (ls : List Int) (w : Nat), lv = .ref l ∧ H l = some (.lst (ls.map V.int)) ∧ GoodLens ls ∧ wv = .int (w : Int) ∧ 2 ≤ w ∧ w ≤ 6 ∧
    ∀ f H' cl el (tl : Costs), H f = none → Lst TripAt H' f tl → NbOk (stretchL ls.length) ls w cl el → (tl.map (·.1)).Perm (stretchL ls.length) → (∀ q ∈ tl, q.2 = cOf cl q.1.1 q.1.2) → Same H H' → Q (.ref f) H'
  | _ => False
def t_paper (K : PySem.W.Frag) (E : XK) : TS := (tSeq (tDrop (tCall (sp_need_lengths K) [] E (tCons (tVar 0) tNil)))
  (tSeq (tDrop (tCall (sp_need_ways K) [] E (tCons (tVar 1) tNil)))
   (tSeq (tAsg (tOpC (rIxT K) (tCall (sp_neighbours_of K) [] E (tCons (tCB1 (xList K) (tVar 0)) (tCons (tVar 1) tNil))) (.int 0)) (gName 2))
    (tRet (tLc (iList K (tCB1 rSortedKT (tVar 2))) (gTup K 2 (gCons (gName 3) (gCons (gName 4) gNil))) tYes (tTup (tCons (tVar 3) (tCons (tVar 4) (tCons (tDGet (tVar 2) (tTup (tCons (tVar 3) (tCons (tVar 4) tNil)))) tNil)))) [3, 4])))))
theorem enc_keys (cl : Costs) : (encC cl).map (·.1) = (cl.map (·.1)).map kkP := by
  unfold encC
  rw [List.map_map, List.map_map]
  rfl
theorem cLook_in {cl : Costs} {b e : Int} (h : (b, e) ∈ cl.map (·.1)) : cLook cl b e = some (cOf cl b e) := by
  unfold cOf
  cases q : cLook cl b e with
  | some x => rfl
  | none =>
    exfalso
    unfold cLook at q
    rw [Option.map_eq_none_iff, List.find?_eq_none] at q
    obtain ⟨r, hr, e2⟩ := List.mem_map.mp h
    exact q r hr (decide_eq_true e2)
theorem pure_paper {K : PySem.W.Frag} : ∀ vs H Q E, sp_paper K vs H Q E → t_paper K E { nx := fun _ H' => Q .non H', rt := Q } (start N_paper vs) H := by
  intro vs H Q E hyp
  match vs, hyp with
  | [lv, wv], hyp =>
    obtain ⟨l, ls, w, rfl, hl, g, rfl, w2, w6, k⟩ := hyp
    have g1 := g.pos
    have g4 := g.le
    refine ⟨_, rfl, l, ls, rfl, hl, g, fun H1 s1 => ?_⟩
    refine ⟨_, rfl, _, rfl, by omega, by omega, fun H2 s2 => ?_⟩
    have s02 := s1.trans s2
    refine ⟨_, rfl, l, _, rfl, .inl (SqL.of (s02 _ _ hl)), fun f hf => ⟨_, rfl, ?_⟩⟩
    have s3 : Same H2 (upd H2 f (.lst (ls.map V.int))) := Rs.Same.new hf
    have ef : upd H2 f (.lst (ls.map V.int)) f = some (.lst (ls.map V.int)) := upd_same
    generalize upd H2 f (.lst (ls.map V.int)) = H3 at s3 ef ⊢
    refine ⟨f, ls, w, rfl, ef, by omega, rfl, w2, w6, fun t dc de cl ek el H4 ht hdc et edc ede EV N s4 => ?_⟩
    have s04 := (s02.trans s3).trans s4
    refine ixT ⟨t, rfl, et⟩ (j := 0) rfl rfl ?_
    refine ⟨_, rfl, dc, encC cl, cl.map (·.1), rfl, edc, enc_keys cl, fun zs ps p pp up pz hp => ?_⟩
    have s5 : Same H4 (upd H4 p (.lst zs)) := Rs.Same.new hp
    have ep : upd H4 p (.lst zs) p = some (.lst zs) := upd_same
    generalize upd H4 p (.lst zs) = H5 at s5 ep ⊢
    have sl := stretch_len (n := ls.length) g4
    have pl := pp.length_eq
    rw [N.keys] at pp pl
    have lz : zs.length = ps.length := Paired.length pz
    refine ⟨p, rfl, ⟨_, SqL.of ep⟩, fun D hD => ?_⟩
    refine lcm_list (R := fun H v (q : Int × Int) => IsTp H v [.int q.1, .int q.2]) (S := TripAt) (fun q : Int × Int => some (q, cOf cl q.1 q.2)) TripAt.st ep (P2.mono (fun v q h => IsTp.mono (TupLe.same s5) h) pz) hD ?_ (by omega) ?_
    · intro j v x H' hx hj r s skip put
      obtain ⟨a, rfl, ea⟩ := r
      have xm : (x.1, x.2) ∈ cl.map (·.1) := by
        rw [N.keys]
        exact pp.mem_iff.mp (List.mem_of_getElem? hx)
      have ed := (s5.trans s) _ _ edc
      refine ⟨a, _, rfl, SqT.of (s _ _ ea), rfl, _, _, rfl, _, _, rfl, rfl, rfl, lc_yes ⟨_, rfl, _, rfl, _, rfl, _, rfl, _, rfl, szle (by show 2 ≤ 100000; decide), fun t2 ht2 => ?_⟩⟩
      have s6 : Same H' (upd H' t2 (.tup [.int x.1, .int x.2])) := Rs.Same.new ht2
      have et2 : upd H' t2 (.tup [.int x.1, .int x.2]) t2 = some (.tup ((kk x.1 x.2).map kV)) := upd_same
      generalize upd H' t2 (.tup [.int x.1, .int x.2]) = H6 at s6 et2 ⊢
      have ev : valV (encC cl) (kk x.1 x.2) = some (V.int (cOf cl x.1 x.2)) := by rw [enc_val, cLook_in xm]; rfl
      refine ⟨dc, .int (cOf cl x.1 x.2), rfl, by rw [← ev]; exact DGet.t (s6 _ _ ed) et2, szle (by show 3 ≤ 100000; decide), fun t3 ht3 => ?_⟩
      exact put _ _ _ (s6.trans (Rs.Same.new ht3)) rfl ⟨t3, rfl, upd_same⟩
    · intro H6 L s6
      rw [fm_some] at L
      have s06 := (s04.trans s5).trans s6
      refine k D H6 cl el _ ((s04.trans s5).free hD) L N ?_ (fun q hq => ?_) s06
      · rw [List.map_map]
        have e : (ps.map ((fun q : (Int × Int) × Int => q.1) ∘ fun q => (q, cOf cl q.1 q.2))) = ps := List.map_id'' (fun _ => rfl) ps
        rw [e]
        exact pp
      · obtain ⟨x, _, rfl⟩ := List.mem_map.mp hq
        rfl
abbrev N_bound : List Str := ["lengths", "ways", "told", "costs", "begin", "end", "number"]
abbrev P_bound : List Str := ["lengths", "ways", "told"]
def sp_bound (K : PySem.W.Frag) : Sp := fun vs H Q E => match vs with
  | [lv, wv, tv] => ∃ (l : Addr) (ls : List Int) (w : Nat) (lt : Addr) (tl : Costs), lv = .ref l ∧ H l = some (.lst (ls.map V.int)) ∧ GoodLens ls ∧ wv = .int (w : Int) ∧ 2 ≤ w ∧ w ≤ 6 ∧ tv = .ref lt ∧ Lst TripAt H lt tl ∧ (tl.map (·.1)).Perm (stretchL ls.length) ∧
    (((∀ b e s ps, (b, e) ∈ stretchL ls.length → BestCut (cOf tl) b e w s ps → cOf tl b e ≤ s + (segL ls b e).sum) ∧ ∀ H', Same H H' → Q (.int (cOf tl 0 (ls.length : Int))) H') ∨
     ((∃ b e, (b, e) ∈ stretchL ls.length ∧ ∀ s ps, BestCut (cOf tl) b e w s ps → s + (segL ls b e).sum < cOf tl b e) ∧ ∀ H', Same H H' → E (.ref (He.ga K "BadPaper")) none H'))
  | _ => False
def t_bound (K : PySem.W.Frag) (E : XK) : TS := (tSeq (tDrop (tCall (sp_need_lengths K) [] E (tCons (tVar 0) tNil)))
  (tSeq (tDrop (tCall (sp_need_ways K) [] E (tCons (tVar 1) tNil)))
   (tSeq (tAsg (tCB1 (xDictPT K) (tLc (iList K (tVar 2)) (gTup K 3 (gCons (gName 4) (gCons (gName 5) (gCons (gName 6) gNil)))) tYes (tTup (tCons (tTup (tCons (tVar 4) (tCons (tVar 5) tNil))) (tCons (tVar 6) tNil))) [4, 5, 6])) (gName 3))
    (tSeq (tIfS (tOr (tTest (tOp rNe (tCB1 rLenT (tVar 3)) (tCB1 (xLen K) (tVar 2)))) (tTest (tOp (rNeD K) (tCB1 rSortedKT (tVar 3)) (tCB1 (rSortedPO K) (tCall (sp_stretches K) [] E (tCons (tCB1 (xLen K) (tVar 0)) tNil)))))) (tRaise E (.ref (He.ga K "BadPaper"))) tNext)
     (tSeq (tLock (tFor (iKeys (tVar 3)) (gTup K 2 (gCons (gName 4) (gCons (gName 5) gNil))) (tIfS (tTest (tOp xGt (tDGet (tVar 3) (tTup (tCons (tVar 4) (tCons (tVar 5) tNil)))) (tOp xAdd (tOpC (rIxT K) (tCall (sp_cuts_of K) [] E (tCons (tVar 3) (tCons (tVar 4) (tCons (tVar 5) (tCons (tVar 1) tNil))))) (.int 0)) (tCB1 (rSum K) (tSl (rSlL K) (tVar 0) (tPart (tVar 4)) (tPart (tVar 5))))))) (tRaise E (.ref (He.ga K "BadPaper"))) tNext)))
      (tRet (tDGet2 (tVar 3) (tTup (tConsC (.int 0) (tCons (tCB1 (xLen K) (tVar 0)) tNil))) (tC (.int 0)))))))))
theorem stretch_nd (n : Nat) : (stretchL n).Nodup := List.Pairwise.imp (fun {x y} h e => by
  subst e
  rcases h with z | ⟨_, z⟩ <;> exact absurd z (Int.lt_irrefl _)) (stretch_pw n)
theorem kkP_inj {x y : Int × Int} (h : kkP x = kkP y) : x = y := by
  obtain ⟨a, b⟩ := kk_inj (a := x.1) (b := x.2) (c := y.1) (d := y.2) h
  exact Prod.ext a b
theorem mergeT_app : ∀ (more kvs : List (List Key × V)), (more.map (·.1)).Nodup → (∀ p ∈ more, valV kvs p.1 = none) → mergeT kvs more = kvs ++ more
  | [], kvs, _, _ => by simp [mergeT]
  | p :: more, kvs, nd, h => by
    rw [List.map_cons, List.nodup_cons] at nd
    have e : mergeT kvs (p :: more) = mergeT (putK kvs p.1 p.2) more := rfl
    rw [e, putK_new _ (h p (List.mem_cons_self ..)), mergeT_app more _ nd.2 fun q hq => ?_]
    · simp
    · rw [valV_snoc _ _ _ _ (h p (List.mem_cons_self ..)), if_neg (fun z => nd.1 (by rw [← z]; exact List.mem_map_of_mem hq))]
      exact h q (List.mem_cons_of_mem _ hq)
theorem encC_merge {tl : Costs} (nd : (tl.map (·.1)).Nodup) : mergeT [] (encC tl) = encC tl := by
  rw [mergeT_app _ _ _ fun p _ => rfl, List.nil_append]
  rw [enc_keys]
  unfold List.Nodup at nd ⊢
  rw [List.pairwise_map]
  exact List.Pairwise.imp (fun h e => h (kkP_inj e)) nd
/-- ((begin, end), number), the inner pair a tuple of its own -/
def DPairAt : Rel ((Int × Int) × Int) := fun H v q => ∃ t b, v = .ref t ∧ H t = some (.tup [.ref b, .int q.2]) ∧ H b = some (.tup [.int q.1.1, .int q.1.2])
theorem DPairAt.st : Stable DPairAt := fun _ _ _ _ t ⟨a, b, e, h1, h2⟩ => ⟨a, b, e, t _ _ h1, t _ _ h2⟩
theorem dpairs {K : PySem.W.Frag} {H : Hp} : ∀ {vs : List V} {tl : Costs}, Paired (DPairAt H) vs tl → ∃ ps : List Addr, vs = ps.map V.ref ∧ Paired (fun p kv => ∃ b, SqT K H p [.ref b, kv.2] ∧ H b = some (.tup (kv.1.map kV))) ps (encC tl)
  | _, _, .nil => ⟨[], rfl, .nil⟩
  | _, _, .cons ⟨t, b, e, h1, h2⟩ r => by
    obtain ⟨ps, e2, p⟩ := dpairs (K := K) r
    exact ⟨t :: ps, by rw [e, e2]; rfl, .cons ⟨b, SqT.of h1, h2⟩ p⟩
theorem ii_dp {K : PySem.W.Frag} {H : Hp} {v : V} {q : Int × Int} (h : IsTp H v [.int q.1, .int q.2]) : Dp K H v (.tuple [.int q.1, .int q.2]) := by
  obtain ⟨a, rfl, e⟩ := h
  exact .tup (SqT.of e) (.cons (.int _) (.cons (.int _) .nil))
theorem pure_bound {K : PySem.W.Frag} : ∀ vs H Q E, sp_bound K vs H Q E → t_bound K E { nx := fun _ H' => Q .non H', rt := Q } (start N_bound vs) H := by
  intro vs H Q E hyp
  match vs, hyp with
  | [lv, wv, tv], hyp =>
    obtain ⟨l, ls, w, lt, tl, rfl, hl, g, rfl, w2, w6, rfl, ⟨tv, et, pt⟩, pm, k⟩ := hyp
    have g1 := g.pos
    have g4 := g.le
    have lt_ := pt.length
    have lpm := pm.length_eq
    rw [List.length_map] at lpm
    have sl := stretch_len (n := ls.length) g4
    have nd : (tl.map (·.1)).Nodup := pm.nodup_iff.mpr (stretch_nd _)
    refine ⟨_, rfl, l, ls, rfl, hl, g, fun H1 s1 => ?_⟩
    refine ⟨_, rfl, _, rfl, by omega, by omega, fun H2 s2 => ?_⟩
    have s02 := s1.trans s2
    refine ⟨_, rfl, lt, rfl, ⟨_, SqL.of (s02 _ _ et)⟩, fun D hD => ?_⟩
    refine lcm_list (S := DPairAt) (fun q : (Int × Int) × Int => some q) DPairAt.st (s02 _ _ et) (Paired.tl TripAt.st (TupLe.same s02) pt) hD ?_ (by omega) ?_
    · intro j v x H' hx hj r s skip put
      obtain ⟨a, rfl, ea⟩ := r
      refine ⟨a, _, rfl, SqT.of (s _ _ ea), rfl, _, _, rfl, _, _, rfl, _, _, rfl, rfl, rfl, lc_yes ⟨_, rfl, _, rfl, szle (by show 2 ≤ 100000; decide), fun t1 ht1 => ?_⟩⟩
      have s3 : Same H' (upd H' t1 (.tup [.int x.1.1, .int x.1.2])) := Rs.Same.new ht1
      have et1 : upd H' t1 (.tup [.int x.1.1, .int x.1.2]) t1 = some _ := upd_same
      generalize upd H' t1 (.tup [.int x.1.1, .int x.1.2]) = H3 at s3 et1 ⊢
      refine ⟨_, rfl, szle (by show 2 ≤ 100000; decide), fun t2 ht2 => ?_⟩
      have s4 : Same H3 (upd H3 t2 (.tup [.ref t1, .int x.2])) := Rs.Same.new ht2
      exact put _ _ _ (s3.trans s4) rfl ⟨t2, t1, rfl, upd_same, s4 _ _ et1⟩
    intro H3 L3 s3
    have fid : tl.filterMap (fun q => some q) = tl := by rw [fm_some]; exact List.map_id' tl
    rw [fid] at L3
    obtain ⟨dv, eD, pD⟩ := L3
    obtain ⟨ps, edv, pps⟩ := dpairs (K := K) pD
    have s03 := s02.trans s3
    refine ⟨D, ps, encC tl, rfl, SqL.of (by rw [eD, edv]), pps, fun d hd => ?_⟩
    rw [encC_merge nd]
    have s4 : Same H3 (upd H3 d (.dT (encC tl))) := Rs.Same.new hd
    have ed : upd H3 d (.dT (encC tl)) d = some (.dT (encC tl)) := upd_same
    have d0 : H d = none := s03.free hd
    generalize upd H3 d (.dT (encC tl)) = H4 at s4 ed ⊢
    have s04 := s03.trans s4
    clear pps edv pD eD dv s3 hD s4 hd
    have lenc : (encC tl).length = tl.length := by unfold encC; rw [List.length_map]
    -- as many, the same stretches
    refine ⟨_, rfl, d, _, rfl, ed, _, rfl, lenL (s04 _ _ et) rfl ⟨rfl, _, rfl, ?_⟩⟩
    rw [lenc, lt_, decide_eq_true rfl]
    refine ⟨_, rfl, d, encC tl, tl.map (·.1), rfl, ed, enc_keys tl, fun zs ks p1 kp ku kz hp1 => ?_⟩
    have s5 : Same H4 (upd H4 p1 (.lst zs)) := Rs.Same.new hp1
    have ep1 : upd H4 p1 (.lst zs) p1 = some (.lst zs) := upd_same
    have ed5 := s5 _ _ ed
    generalize upd H4 p1 (.lst zs) = H5 at s5 ep1 ed5 ⊢
    refine ⟨_, rfl, lenL ((s04.trans s5) _ _ hl) rfl ⟨ls.length, by rw [List.length_map], g4, fun lx H6 hlx ⟨xv, ex, px⟩ s6 => ?_⟩⟩
    refine ⟨lx, xv, pairI H6, rfl, SqL.of ex, fun x hx => ?_, fun ys p2 hs hp hnp => ?_⟩
    · obtain ⟨q, hq, r⟩ := paired_mem px hx
      obtain ⟨t, rfl, et⟩ := id r
      refine ⟨t, rfl, ?_⟩
      rw [pairI_of r]
      exact et
    have kmap : ∀ {vs : List V} {rs : List (Int × Int)}, Paired (IIAt H6) vs rs → vs.map (pairI H6) = rs := fun {vs rs} q => by
      induction q with
      | nil => rfl
      | cons a b ih => rw [List.map_cons, ih, pairI_of a]
    have ey : ys.map (pairI H6) = ks := by
      refine srtL_one ?_ ?_ ku
      · have := hp.perm.map (pairI H6)
        rw [kmap px] at this
        exact this.trans (kp.trans pm).symm
      · rw [List.pairwise_map]
        exact hs
    have py : Paired (IIAt H6) ys ks := by
      rw [← ey]
      have all : ∀ y ∈ ys, IIAt H6 y (pairI H6 y) := fun y hy => by
        obtain ⟨q, hq, r⟩ := paired_mem px (hp.perm.mem_iff.mp hy)
        rw [pairI_of r]
        exact r
      clear hs hp ey k
      induction ys with
      | nil => exact .nil
      | cons y ys ih => exact .cons (all y (List.mem_cons_self ..)) (ih fun z hz => all z (List.mem_cons_of_mem _ hz))
    have s7 : Same H6 (upd H6 p2 (.lst ys)) := Rs.Same.new hnp
    have ep2 : upd H6 p2 (.lst ys) p2 = some (.lst ys) := upd_same
    generalize upd H6 p2 (.lst ys) = H7 at s7 ep2 ⊢
    have s57 := s6.trans s7
    have s47 := s5.trans s57
    have s07 := s04.trans s47
    have lks := kp.length_eq
    rw [List.length_map] at lks
    have okk : okD 3 (.list (ks.map fun q => .tuple [.int q.1, .int q.2])) := list_ok (n := 2) (by omega) fun q _ => ⟨by show 2 ≤ 100000; decide, fun d hd => by
      simp only [List.mem_cons, List.not_mem_nil, or_false] at hd
      rcases hd with rfl | rfl <;> exact trivial⟩
    refine ⟨.list (ks.map fun q => .tuple [.int q.1, .int q.2]), .list (ks.map fun q => .tuple [.int q.1, .int q.2]), .lst (SqL.of (s57 _ _ ep1)) (dpAll (R := fun H v (q : Int × Int) => IsTp H v [.int q.1, .int q.2]) (fun v q h => ii_dp h) (P2.mono (fun v q h => IsTp.mono (TupLe.same s47) h) kz)), .lst (SqL.of ep2) (dpAll (R := IIAt) (fun v q h => ii_dp h) (Paired.tl IIAt.st (TupLe.same s7) py)), okk.shaped (by decide), okk.shaped (by decide), ?_⟩
    rw [okk.eqv]
    refine ⟨_, rfl, ?_⟩
    have ed7 := s47 _ _ ed
    clear py ey kmap ep2 s7 hnp hs hp px ex hlx s6 kz ep1 hp1 ku s57 s5 ed5 lks okk s04 ed
    -- stretch by stretch
    refine ⟨d, _, ed7, trivial, fun od => ?_⟩
    have s8 : Same H (upd H7 d (.frz od (.dT (encC tl)))) := Rs.Same.mut s07 d0
    have ed8 : upd H7 d (.frz od (.dT (encC tl))) d = some _ := upd_same
    generalize upd H7 d (.frz od (.dT (encC tl))) = H8 at s8 ed8 ⊢
    refine ⟨_, rfl, d, od, rfl, .inr ⟨encC tl, ed8, ?_⟩⟩
    refine for_it (walk_keysT (d := d) (o := od) (kvs := encC tl)) (fun i σ H' => ∃ (x4 x5 x6 : Option V), σ = [some (.ref l), some (.int (w : Int)), some (.ref lt), some (.ref d), x4, x5, x6] ∧ H' d = some (.frz od (.dT (encC tl))) ∧ Same H H' ∧ (∀ b e, (∃ j, j < i ∧ (tl.map (·.1))[j]? = some (b, e)) → ∃ s ps, BestCut (cOf tl) b e w s ps ∧ cOf tl b e ≤ s + (segL ls b e).sum))
      ⟨none, none, none, rfl, ed8, s8, fun b e ⟨j, z, _⟩ => by omega⟩ ?_ ?_ ?_
    · rintro i σ H' _ ⟨_, _, _, _, h, _⟩
      exact h
    · rintro i x σ _ H9 hi ⟨x4, x5, x6, rfl, ed9, s9, dn⟩ ⟨rfl, kk_, v_, q_, hk, rfl, eq9⟩
      have hit : i < tl.length := by omega
      have hkk : kk_ = kk (tl[i]).1.1 (tl[i]).1.2 ∧ v_ = V.int (tl[i]).2 := by
        unfold encC at hk
        rw [List.getElem?_map, List.getElem?_eq_getElem hit] at hk
        injection hk with hk
        injection hk with a b
        exact ⟨a.symm, b.symm⟩
      obtain ⟨rfl, rfl⟩ := hkk
      have hmem : (tl.map (·.1))[i]? = some (tl[i]).1 := by rw [List.getElem?_map, List.getElem?_eq_getElem hit]; rfl
      generalize hq : tl[i] = q at hk eq9 hmem
      obtain ⟨⟨b, e⟩, num⟩ := q
      dsimp only at hk eq9 hmem
      have hin : (b, e) ∈ tl.map (·.1) := List.mem_of_getElem? hmem
      have hst : (b, e) ∈ stretchL ls.length := pm.mem_iff.mp hin
      obtain ⟨m0, m2, mn⟩ := stretch_mem.mp hst
      dsimp only at m0 m2 mn
      have ev : valV (encC tl) (kk b e) = some (V.int (cOf tl b e)) := by rw [enc_val, cLook_in hin]; rfl
      have eq9 : H9 q_ = some (.tup [.int b, .int e]) := eq9
      refine ⟨q_, _, rfl, SqT.of eq9, rfl, _, _, rfl, _, _, rfl, rfl, ?_⟩
      refine ⟨_, rfl, _, rfl, _, rfl, szle (by show 2 ≤ 100000; decide), fun t1 ht1 => ?_⟩
      have s10 : Same H9 (upd H9 t1 (.tup [.int b, .int e])) := Rs.Same.new ht1
      have et1 : upd H9 t1 (.tup [.int b, .int e]) t1 = some (.tup ((kk b e).map kV)) := upd_same
      generalize upd H9 t1 (.tup [.int b, .int e]) = H10 at s10 et1 ⊢
      have ed10 := s10 _ _ ed9
      refine ⟨d, .int (cOf tl b e), rfl, .inr ⟨encC tl, kk b e, t1, .inr ⟨od, ed10⟩, rfl, et1, ev.symm⟩, ?_⟩
      refine ⟨_, rfl, _, rfl, _, rfl, _, rfl, d, tl, b, e, w, rfl, .inr ⟨od, ed10⟩, rfl, rfl, rfl, m0, m2, by omega, by omega, w2, w6, fun v H11 s ps' cv B s11 => ?_⟩
      obtain ⟨a, lp, rfl, ha, hlp⟩ := cv
      refine ixT ⟨a, rfl, ha⟩ (j := 0) rfl rfl ?_
      have eb : b = ((b.toNat : Nat) : Int) := by omega
      have ee : e = ((e.toNat : Nat) : Int) := by omega
      have s911 := s10.trans s11
      have s011 := s9.trans s911
      refine ⟨_, rfl, _, rfl, _, rfl, _, rfl, _, rfl, l, _, rfl, SqL.of (s011 _ _ hl), fun p hp => ⟨p, segL ls b e, rfl, SqL.of ?_, ?_⟩⟩
      · rw [upd_same]
        congr 2
        conv => lhs; rw [eb, ee]
        rw [cut_mid]
        unfold segL
        rw [List.map_take, List.map_drop]
      have s12 : Same H11 (upd H11 p (.lst (cutV (ls.map V.int) (some b) (some e)))) := Rs.Same.new hp
      generalize upd H11 p (.lst (cutV (ls.map V.int) (some b) (some e))) = H12 at s12 ⊢
      refine ⟨_, _, rfl, rfl, _, _, rfl, rfl, _, rfl, ?_⟩
      have s012 := s011.trans s12
      by_cases c : s + (segL ls b e).sum < cOf tl b e
      · rw [decide_eq_true c]
        rcases k with ⟨good, _⟩ | ⟨_, bad⟩
        · have := good b e s ps' hst B
          omega
        · exact bad H12 s012
      · rw [decide_eq_false c]
        refine ⟨_, _, _, rfl, (s911.trans s12) _ _ ed9, s012, fun b' e' ⟨j, hj, hj2⟩ => ?_⟩
        by_cases z : j < i
        · exact dn b' e' ⟨j, z, hj2⟩
        · have : j = i := by omega
          subst this
          rw [hmem] at hj2
          injection hj2 with hj2
          injection hj2 with z1 z2
          subst z1 z2
          exact ⟨s, ps', B, by omega⟩
    · rintro σ H9 ⟨x4, x5, x6, rfl, ed9, s9, dn⟩
      refine ⟨ed9, ?_⟩
      have s10 : Same H (upd H9 d (.dT (encC tl))) := Rs.Same.mut s9 d0
      have ed10 : upd H9 d (.dT (encC tl)) d = some _ := upd_same
      generalize upd H9 d (.dT (encC tl)) = H10 at s10 ed10 ⊢
      have eln : (((ls.map V.int).length : Nat) : Int) = (ls.length : Int) := by rw [List.length_map]
      refine ⟨_, rfl, d, rfl, .inr ⟨_, .inl ed10⟩, _, rfl, lenL (s10 _ _ hl) rfl ⟨szle (by show 2 ≤ 100000; decide), fun t1 ht1 => ?_⟩⟩
      rw [eln]
      have s11 : Same H10 (upd H10 t1 (.tup [.int 0, .int (ls.length : Int)])) := Rs.Same.new ht1
      have et1 : upd H10 t1 (.tup [.int 0, .int (ls.length : Int)]) t1 = some (.tup ((kk 0 (ls.length : Int)).map kV)) := upd_same
      generalize upd H10 t1 (.tup [.int 0, .int (ls.length : Int)]) = H11 at s11 et1 ⊢
      refine ⟨_, DGet.t (k := kk 0 (ls.length : Int)) (s11 _ _ ed10) et1, ?_⟩
      rw [enc_getD]
      rcases k with ⟨_, kq⟩ | ⟨⟨b, e, hbe, bad⟩, _⟩
      · exact kq H11 (s10.trans s11)
      · exfalso
        obtain ⟨j, hj, ej⟩ := List.getElem_of_mem (pm.mem_iff.mpr hbe)
        rw [List.length_map] at hj
        obtain ⟨s, ps', B, le⟩ := dn b e ⟨j, by omega, by rw [List.getElem?_eq_getElem (by rw [List.length_map]; exact hj), ej]⟩
        have := bad s ps' B
        omega
end Rs

namespace Rs
open PySem PySem.Spec PyProof.Rows L2
abbrev N_law_side : List Str := ["_law_box", "_law_runs", "_law_ways", "_law_left", "_law_many", "_law_at", "_law_group"]
abbrev P_law_side : List Str := ["_law_box", "_law_runs", "_law_ways"]
def sp_law_side (K : PySem.W.Frag) : Sp := fun vs H Q E => match vs with
  | [b, rv, wv] => ∃ (a l lr : Addr) (ids : List Int) (w : Nat), b = .ref a ∧ rv = .ref lr ∧ H lr = some (.lst (ids.map V.int)) ∧ wv = .int (w : Int) ∧ 2 ≤ w ∧ w ≤ 6 ∧ 1 ≤ ids.length ∧ ids.length ≤ 40 ∧ Box H a l ∧
    ∀ v (pl : Pl) H', PlR H' v pl → pl.fits w = true → pl.runs = ids → Box H' a l → But [a, l] H H' → Q v H'
  | _ => False
def t_law_side (K : PySem.W.Frag) (E : XK) : TS := (tSeq (tAsg (tCB1 (xList K) (tVar 1)) (gName 3))
  (tSeq (tWhile (tTest (tOpC xGt (tCB1 (xLen K) (tVar 3)) (.int 1))) 
     (tSeq (tAsg (tCB xMin2 (tCons (tCB1 (xLen K) (tVar 3)) (tCons (tOpD xAdd (.int 2) (tCall (sp_law_take K) [] E (tCons (tVar 0) (tCons (tOpC xSub (tVar 2) (.int 1)) tNil)))) tNil))) (gName 4))
     (tSeq (tAsg (tCall (sp_law_take K) [] E (tCons (tVar 0) (tCons (tOpC xAdd (tOp xSub (tCB1 (xLen K) (tVar 3)) (tVar 4)) (.int 1)) tNil))) (gName 5))
      (tSeq (tAsg (tCB1 (xTuple K) (tSl (rSlL K) (tVar 3) (tPart (tVar 5)) (tPart (tOp xAdd (tVar 5) (tVar 4))))) (gName 6))
       (tAsg (tOp rCat (tOp rCat (tSl (rSlL K) (tVar 3) tNoPart (tPart (tVar 5))) (tLst (tCons (tVar 6) tNil))) (tSl (rSlL K) (tVar 3) (tPart (tOp xAdd (tVar 5) (tVar 4))) tNoPart)) (gName 3))))))
   (tRet (tOpC (rIxL K) (tVar 3) (.int 0)))))
theorem pure_law_side {K : PySem.W.Frag} : ∀ vs H Q E, sp_law_side K vs H Q E → t_law_side K E { nx := fun _ H' => Q .non H', rt := Q } (start N_law_side vs) H := by
  intro vs H Q E hyp
  match vs, hyp with
  | [b, rv, wv], hyp =>
    obtain ⟨a, l, lr, ids, w, rfl, rfl, hlr, rfl, w2, w6, i1, i2, B, k⟩ := hyp
    refine ⟨_, rfl, lr, _, rfl, .inl (SqL.of hlr), fun f hf => ?_⟩
    refine ⟨fun m σ H' => ∃ (f : Addr) (vs : List V) (ps : List Pl) (x4 x5 x6 : Option V), m = ps.length ∧ σ = [some (.ref a), some (.ref lr), some (.int (w : Int)), some (.ref f), x4, x5, x6] ∧ f ∉ [a, l] ∧ H' f = some (.lst vs) ∧ Paired (PlR H') vs ps ∧ 1 ≤ ps.length ∧ ps.length ≤ 40 ∧ Pl.fitsL w ps = true ∧ Pl.runsL ps = ids ∧ Box H' a l ∧ But [a, l] H H',
      ⟨_, f, _, ids.map Pl.leaf, none, none, none, rfl, rfl, B.fresh hf, upd_same, leaf_paired ids, by simpa using i1, by simpa using i2, leaves_fits ids, leaf_runs ids, B.same (Rs.Same.new hf), But.same (Rs.Same.new hf)⟩, ?_⟩
    rintro m σ H1 ⟨f, vs, ps, x4, x5, x6, rfl, rfl, nf, ef, pp, p1, p40, fit, rn, B1, k1⟩
    have lp := pp.length
    refine ⟨_, rfl, lenL ef rfl ⟨_, _, rfl, rfl, _, rfl, ?_⟩⟩
    by_cases hgt : 1 < ps.length
    · rw [decide_eq_true (show (1 : Int) < ((vs.length : Nat) : Int) by omega)]
      refine ⟨fun σ H' => ∃ (f : Addr) (vs : List V) (ps' : List Pl) (x4 x5 x6 : Option V), ps'.length < ps.length ∧ σ = [some (.ref a), some (.ref lr), some (.int (w : Int)), some (.ref f), x4, x5, x6] ∧ f ∉ [a, l] ∧ H' f = some (.lst vs) ∧ Paired (PlR H') vs ps' ∧ 1 ≤ ps'.length ∧ ps'.length ≤ 40 ∧ Pl.fitsL w ps' = true ∧ Pl.runsL ps' = ids ∧ Box H' a l ∧ But [a, l] H H', ?_, ?_⟩
      · rintro σ H' ⟨f', vs', ps', x4, x5, x6, q1, q2⟩
        exact ⟨_, q1, f', vs', ps', x4, x5, x6, rfl, q2⟩
      refine ⟨_, rfl, lenL ef rfl ⟨_, rfl, _, rfl, _, _, rfl, rfl, a, l, _, rfl, rfl, by omega, by omega, B1, fun r H2 r0 r1 B2 k2 => ⟨_, _, rfl, rfl, _, _, rfl, ?_⟩⟩⟩
      obtain ⟨mn, emn, m2, mw, mle⟩ : ∃ mn : Nat, (if 2 + r < ((vs.length : Nat) : Int) then 2 + r else ((vs.length : Nat) : Int)) = (mn : Int) ∧ 2 ≤ mn ∧ mn ≤ w ∧ mn ≤ ps.length := by
        split
        · exact ⟨(2 + r).toNat, by omega, by omega, by omega, by omega⟩
        · exact ⟨ps.length, by omega, by omega, by omega, by omega⟩
      rw [emn]
      have ef2 := k2 _ _ ef nf
      have pp2 := Paired.tl PlR.st (B1.tup k2) pp
      refine ⟨_, rfl, _, rfl, lenL ef2 rfl ⟨_, rfl, _, _, rfl, rfl, _, _, rfl, rfl, a, l, _, rfl, rfl, by omega, by omega, B2, fun g H3 g0 g1 B3 k3 => ?_⟩⟩
      obtain ⟨j, rfl⟩ : ∃ j : Nat, g = (j : Int) := ⟨g.toNat, by omega⟩
      have hjm : j + mn ≤ ps.length := by omega
      have ef3 := k3 _ _ ef2 nf
      have pp3 := Paired.tl PlR.st (B2.tup k3) pp2
      have k03 := (k1.trans k2).trans k3
      have ejm : (j : Int) + (mn : Int) = ((j + mn : Nat) : Int) := by omega
      -- the group
      refine ⟨_, rfl, _, rfl, _, rfl, _, rfl, _, rfl, _, _, rfl, rfl, _, rfl, f, vs, rfl, SqL.of ef3, fun q hq => ?_⟩
      dsimp only
      rw [ejm, cut_mid, show j + mn - j = mn by omega]
      have s4 : Same H3 (upd H3 q (.lst ((vs.drop j).take mn))) := Rs.Same.new hq
      have eq : upd H3 q (.lst ((vs.drop j).take mn)) q = some _ := upd_same
      generalize upd H3 q (.lst ((vs.drop j).take mn)) = H4 at s4 eq ⊢
      refine ⟨q, _, rfl, .inl ⟨SqL.of eq, fun t ht => ?_⟩⟩
      have s5 : Same H4 (upd H4 t (.tup ((vs.drop j).take mn))) := Rs.Same.new ht
      have et : upd H4 t (.tup ((vs.drop j).take mn)) t = some _ := upd_same
      generalize upd H4 t (.tup ((vs.drop j).take mn)) = H5 at s5 et ⊢
      have s35 := s4.trans s5
      have ef5 := s35 _ _ ef3
      -- ahead of it
      refine ⟨_, rfl, _, rfl, _, rfl, f, vs, rfl, SqL.of ef5, fun q1 hq1 => ?_⟩
      rw [cut_to (by omega)]
      have s6 : Same H5 (upd H5 q1 (.lst (vs.take j))) := Rs.Same.new hq1
      have eq1 : upd H5 q1 (.lst (vs.take j)) q1 = some _ := upd_same
      generalize upd H5 q1 (.lst (vs.take j)) = H6 at s6 eq1 ⊢
      refine ⟨_, rfl, szle (by show 1 ≤ 100000; decide), fun q2 hq2 => ?_⟩
      have s7 : Same H6 (upd H6 q2 (.lst [.ref t])) := Rs.Same.new hq2
      have eq2 : upd H6 q2 (.lst [.ref t]) q2 = some _ := upd_same
      generalize upd H6 q2 (.lst [.ref t]) = H7 at s7 eq2 ⊢
      refine ⟨q1, q2, _, _, rfl, rfl, s7 _ _ eq1, eq2, szle (by rw [List.length_take]; show _ + 1 ≤ 100000; omega), fun q3 hq3 => ?_⟩
      have s8 : Same H7 (upd H7 q3 (.lst (vs.take j ++ [.ref t]))) := Rs.Same.new hq3
      have eq3 : upd H7 q3 (.lst (vs.take j ++ [.ref t])) q3 = some _ := upd_same
      generalize upd H7 q3 (.lst (vs.take j ++ [.ref t])) = H8 at s8 eq3 ⊢
      have s58 := (s6.trans s7).trans s8
      -- behind it
      refine ⟨_, rfl, _, rfl, _, rfl, _, _, rfl, rfl, _, rfl, f, vs, rfl, SqL.of (s58 _ _ ef5), fun q4 hq4 => ?_⟩
      dsimp only
      rw [ejm, cut_from (by omega)]
      have s9 : Same H8 (upd H8 q4 (.lst (vs.drop (j + mn)))) := Rs.Same.new hq4
      have eq4 : upd H8 q4 (.lst (vs.drop (j + mn))) q4 = some _ := upd_same
      generalize upd H8 q4 (.lst (vs.drop (j + mn))) = H9 at s9 eq4 ⊢
      refine ⟨q3, q4, _, _, rfl, rfl, s9 _ _ eq3, eq4, szle (by rw [List.length_append, List.length_take, List.length_drop]; show _ + 1 + _ ≤ 100000; omega), fun q5 hq5 => ?_⟩
      have s10 : ∀ u, Same H9 (upd H9 q5 u) := fun u => Rs.Same.new hq5
      have s59 := (s58.trans s9).trans (s10 (.lst (vs.take j ++ [V.ref t] ++ vs.drop (j + mn))))
      have s39 := s35.trans s59
      have t3 := TupLe.same s39
      have psplit : ps = ps.take j ++ ((ps.drop j).take mn ++ ps.drop (j + mn)) := by
        conv => lhs; rw [← List.take_append_drop j ps, ← List.take_append_drop mn (ps.drop j), List.drop_drop]
      have fits3 : Pl.fitsL w (ps.take j) = true ∧ Pl.fitsL w ((ps.drop j).take mn) = true ∧ Pl.fitsL w (ps.drop (j + mn)) = true := by
        rw [psplit, fitsL_app, fitsL_app] at fit
        simp only [Bool.and_eq_true] at fit
        exact ⟨fit.1, fit.2.1, fit.2.2⟩
      have gl : ((ps.drop j).take mn).length = mn := by rw [List.length_take, List.length_drop]; omega
      have nodefit : (Pl.node ((ps.drop j).take mn)).fits w = true := by
        rw [Pl.fits, gl, fits3.2.1, decide_eq_true m2, decide_eq_true mw]
        rfl
      have len : (ps.take j ++ [Pl.node ((ps.drop j).take mn)] ++ ps.drop (j + mn)).length = ps.length - mn + 1 := by
        rw [List.length_append, List.length_append, List.length_take, List.length_drop, List.length_singleton]
        omega
      have B9 := B3.same s39
      refine ⟨q5, _, ps.take j ++ [Pl.node ((ps.drop j).take mn)] ++ ps.drop (j + mn), _, _, _, by omega, rfl, (B3.same ((s35.trans s58).trans s9)).fresh hq5, upd_same, P2.app (P2.app (Paired.tl PlR.st t3 (P2.take j pp3)) (P2.one (PlR.node (s59 _ _ et) (Paired.tl PlR.st t3 (P2.take mn (P2.drop j pp3)))))) (Paired.tl PlR.st t3 (P2.drop (j + mn) pp3)), by omega, by omega, ?_, ?_, B9, k03.trans (But.same s39)⟩
      · rw [fitsL_app, fitsL_app, fits3.1, fits3.2.2, Pl.fitsL, nodefit]
        rfl
      · rw [runsL_app, runsL_app, ← rn]
        conv => rhs; rw [psplit, runsL_app, runsL_app]
        rw [Pl.runsL, Pl.runsL, Pl.runs, List.append_nil, List.append_assoc]
    · rw [decide_eq_false (show ¬ (1 : Int) < ((vs.length : Nat) : Int) by omega)]
      match ps, pp, p1, hgt, fit, rn with
      | [p], .cons (a := v) hp .nil, _, _, fit, rn =>
        refine ⟨_, rfl, ixL ef (j := 0) rfl rfl ?_⟩
        rw [Pl.fitsL, Pl.fitsL, Bool.and_true] at fit
        exact k v p H1 hp fit (by simpa [Pl.runsL] using rn) B1 k1
      | p :: q :: r, _, _, hgt, _, _ => exact absurd (by simp) hgt
abbrev N_law_fewest : List Str := ["_law_lengths_here", "_law_ways", "_law_known", "_law_key", "_law_some", "_law_many", "_law_at", "_law_size", "_law_rest"]
abbrev P_law_fewest : List Str := ["_law_lengths_here", "_law_ways", "_law_known"]
def KnownN (w : Nat) (kvs : List (List Key × V)) : Prop := ∀ (ns : List Int) (v : V), valV kvs (ns.map Sum.inl : List Key) = some v → ∃ m, v = .int m ∧ NOpt w ns m
def En (n : Nat) : Nat := ([0, 0, 1, 3, 12, 60, 360, 2520] : List Nat).getD n 0
def accN (n i : Nat) : Nat := ((List.range i).map fun i => (n - (2 + i) + 1) * En (n - (2 + i) + 1)).sum
def spr_law_fewest (K : PySem.W.Frag) (d : Nat) : Sp := fun vs H Q E => match vs with
  | [sv, wv, kv] => ∃ (l : Addr) (ls : List Int) (w : Nat) (kd : Addr) (kvs : List (List Key × V)), sv = .ref l ∧ H l = some (.lst (ls.map V.int)) ∧ wv = .int (w : Int) ∧ 2 ≤ w ∧ w ≤ 1000 ∧ kv = .ref kd ∧ H kd = some (.dT kvs) ∧ KnownN w kvs ∧ 1 ≤ ls.length ∧ ls.length ≤ d ∧ ls.length ≤ 7 ∧ kvs.length + En ls.length ≤ 50000 ∧
    ∀ H' kvs' m, NOpt w ls m → H' kd = some (.dT kvs') → KnownN w kvs' → kvs'.length ≤ kvs.length + En ls.length → But [kd] H H' → Q (.int m) H'
  | _ => False
abbrev sp_law_fewest (K : PySem.W.Frag) : Sp := spr_law_fewest K 9
theorem no_law_fewest (K : PySem.W.Frag) : ∀ vs H Q E, ¬ spr_law_fewest K 0 vs H Q E := fun vs H Q E h => by
  unfold spr_law_fewest at h
  match vs, h with
  | [_, _, _], ⟨_, _, _, _, _, _, _, _, _, _, _, _, _, h1, h2, _⟩ => omega
theorem len_law_fewest (K : PySem.W.Frag) : ∀ d vs H Q E, spr_law_fewest K d vs H Q E → vs.length = 3 := fun d vs H Q E h => by
  unfold spr_law_fewest at h
  match vs, h with
  | [_, _, _], _ => rfl
def t_law_fewest (K : PySem.W.Frag) (sp : Sp) (E : XK) : TS := (tSeq (tIfS (tTest (tOpC rEq (tCB1 (xLen K) (tVar 0)) (.int 1))) (tRet (tC (.int 0))) tNext)
  (tSeq (tAsg (tCB1 (xTuple K) (tVar 0)) (gName 3))
   (tSeq (tIfS (tB (tDNotIn (tVar 3) (tVar 2))) 
      (tSeq (tAsg (tLst tNil) (gName 4))
      (tSeq (tFor (iRng2 (tConsC (.int 2) (tCons (tOpC xAdd (tCB xMin2 (tCons (tVar 1) (tCons (tCB1 (xLen K) (tVar 3)) tNil))) (.int 1)) tNil))) (gName 5) 
         (tFor (iRng1 (tCons (tOpC xAdd (tOp xSub (tCB1 (xLen K) (tVar 3)) (tVar 5)) (.int 1)) tNil)) (gName 6) 
           (tSeq (tAsg (tCB1 (rSumT K) (tSl (rSlTA K) (tVar 3) (tPart (tVar 6)) (tPart (tOp xAdd (tVar 6) (tVar 5))))) (gName 7))
           (tSeq (tAsg (tOp rCat (tOp rCat (tCB1 (xList K) (tSl (rSlTA K) (tVar 3) tNoPart (tPart (tVar 6)))) (tLst (tCons (tVar 7) tNil))) (tCB1 (xList K) (tSl (rSlTA K) (tVar 3) (tPart (tOp xAdd (tVar 6) (tVar 5))) tNoPart))) (gName 8))
            (tDrop (tBM K "list" rAppend (tVar 4) (tCons (tOp xAdd (tVar 7) (tCall sp [] E (tCons (tVar 8) (tCons (tVar 1) (tCons (tVar 2) tNil))))) tNil)))))))
       (sDPut (tVar 2) (tVar 3) (tCB1 (rMin K) (tVar 4))))) tNext)
    (tRet (tDGet (tVar 2) (tVar 3))))))
theorem accN_le {n i : Nat} (h2 : 2 ≤ n) (h6 : n ≤ 7) (hi : i < n) : accN n i + 1 ≤ En n := by
  have : ∀ n : Nat, n < 8 → 2 ≤ n → ∀ i : Nat, i < n → accN n i + 1 ≤ En n := by decide +kernel
  exact this n (by omega) h2 i hi
theorem accN_step (n i : Nat) : accN n (i + 1) = accN n i + (n - (2 + i) + 1) * En (n - (2 + i) + 1) := by
  unfold accN
  rw [List.range_succ, List.map_append, List.sum_append]
  simp
theorem keyN_kV (ns : List Int) : (ns.map Sum.inl : List Key).map kV = ns.map V.int := by
  rw [List.map_map]
  rfl
theorem putN_most {κ : Type} [DecidableEq κ] (c : List (κ × V)) (k : κ) (x : V) : (putK c k x).length ≤ c.length + 1 := by
  unfold putK
  split
  · rw [List.length_map]; omega
  · rw [List.length_append, List.length_singleton]; omega
theorem KnownN.put {w : Nat} {kvs : List (List Key × V)} {ns : List Int} {m : Int} (h : KnownN w kvs) (n : NOpt w ns m) : KnownN w (putK kvs (ns.map Sum.inl) (.int m)) := fun ms v e => by
  rw [valV_put] at e
  by_cases c : (ms.map Sum.inl : List Key) = ns.map Sum.inl
  · rw [if_pos c] at e
    have : ms = ns := (List.map_inj_right (fun x y h => by injection h)).mp c
    rw [this]
    injection e with e
    exact ⟨m, e.symm, n⟩
  · rw [if_neg c] at e
    exact h ms v e
/-- the split at j, of so many -/
theorem split3 (ls : List Int) (j m : Nat) : ls = ls.take j ++ (ls.drop j).take m ++ ls.drop (j + m) := by
  conv => lhs; rw [← List.take_append_drop j ls, ← List.take_append_drop m (ls.drop j), List.drop_drop]
  rw [List.append_assoc]
theorem split_at {A M B : List Int} : (A ++ M ++ B).take A.length = A ∧ ((A ++ M ++ B).drop A.length).take M.length = M ∧ (A ++ M ++ B).drop (A.length + M.length) = B := by
  refine ⟨?_, ?_, ?_⟩
  · rw [List.append_assoc, List.take_left]
  · rw [List.append_assoc, List.drop_left, List.take_left]
  · rw [← List.length_append, List.drop_left]
theorem pure_law_fewest {K : PySem.W.Frag} (d : Nat) : ∀ vs H Q E, spr_law_fewest K (d + 1) vs H Q E → t_law_fewest K (spr_law_fewest K d) E { nx := fun _ H' => Q .non H', rt := Q } (start N_law_fewest vs) H := by
  intro vs H Q E hyp
  unfold spr_law_fewest at hyp
  match vs, hyp with
  | [sv, wv, kv], hyp =>
    obtain ⟨l, ls, w, kd, kvs, rfl, hl, rfl, w2, w1, rfl, ek, kn, n1, nd, n7, room, k⟩ := hyp
    refine ⟨_, rfl, lenL hl rfl ⟨rfl, _, rfl, ?_⟩⟩
    rw [List.length_map]
    by_cases c1 : ls.length = 1
    · rw [decide_eq_true (by rw [c1]; rfl : V.int ((ls.length : Nat) : Int) = V.int 1)]
      obtain ⟨x, rfl⟩ := List.length_eq_one_iff.mp c1
      exact k H kvs 0 (nopt_one x) ek kn (by omega) (But.refl _ _)
    · rw [decide_eq_false (fun z => by injection z with z; omega : ¬ V.int ((ls.length : Nat) : Int) = V.int 1)]
      refine ⟨_, rfl, l, _, rfl, .inl ⟨SqL.of hl, fun t ht => ?_⟩⟩
      have s1 : Same H (upd H t (.tup (ls.map V.int))) := Rs.Same.new ht
      have et : upd H t (.tup (ls.map V.int)) t = some (.tup (ls.map V.int)) := upd_same
      generalize upd H t (.tup (ls.map V.int)) = H1 at s1 et ⊢
      have ek1 := s1 _ _ ek
      have etk : H1 t = some (.tup ((ls.map Sum.inl : List Key).map kV)) := by rw [keyN_kV]; exact et
      have fin : ∀ H' kvs' m, NOpt w ls m → H' kd = some (.dT kvs') → H' t = some (.tup (ls.map V.int)) → KnownN w kvs' → kvs'.length ≤ kvs.length + En ls.length → But [kd] H H' → valV kvs' (ls.map Sum.inl : List Key) = some (.int m) → ∀ σ : L2.St, σ[2]? = some (some (.ref kd)) → σ[3]? = some (some (.ref t)) → (tRet (tDGet (tVar 2) (tVar 3)) : TS) { nx := fun _ H' => Q .non H', rt := Q } σ H' := fun H' kvs' m e0 e1 e2 e3 e4 e5 e6 σ h2 h3 => by
        refine ⟨_, h2, _, h3, kd, .int m, rfl, ?_, k H' kvs' m e0 e1 e3 e4 e5⟩
        rw [← e6]
        exact DGet.t e1 (by rw [keyN_kV]; exact e2)
      refine ⟨_, rfl, _, rfl, kd, _, rfl, DGet.t ek1 etk, _, rfl, ?_⟩
      cases hv : valV kvs (ls.map Sum.inl : List Key) with
      | some v =>
        obtain ⟨m, rfl, nm⟩ := kn ls v hv
        exact fin H1 kvs m nm ek1 et kn (by omega) (But.same s1) hv _ rfl rfl
      | none =>
        have ef2 := accN_le (n := ls.length) (by omega) n7 (i := 0) (by omega)
        refine ⟨sz0, fun f hf => ?_⟩
        have s2 : Same H1 (upd H1 f (.lst [])) := Rs.Same.new hf
        have eff : upd H1 f (.lst []) f = some (.lst ([].map V.int)) := upd_same
        generalize upd H1 f (.lst []) = H2 at s2 eff ⊢
        have nfk : f ≠ kd := (ne_of_none ek1 hf).symm
        have nft : f ≠ t := (ne_of_none et hf).symm
        have ntk : t ≠ kd := fun z => by rw [z, ek1] at et; cases et
        refine ⟨_, rfl, _, rfl, lenT ⟨t, rfl, s2 _ _ et⟩ rfl ⟨_, _, rfl, _, _, rfl, rfl, _, _, rfl, ?_⟩⟩
        rw [List.length_map]
        obtain ⟨mn, emn, mn2, mnw, mnl, mnt⟩ : ∃ mn : Nat, (if ((ls.length : Nat) : Int) < (w : Int) then ((ls.length : Nat) : Int) else (w : Int)) = (mn : Int) ∧ 2 ≤ mn ∧ mn ≤ w ∧ mn ≤ ls.length ∧ (mn = w ∨ mn = ls.length) := by
          split
          · exact ⟨ls.length, rfl, by omega, by omega, by omega, .inr rfl⟩
          · exact ⟨w, rfl, by omega, by omega, by omega, .inl rfl⟩
        rw [emn]
        refine ⟨⟨by omega, by omega, by omega, by omega⟩, ?_⟩
        have en : ((mn : Int) + 1 - 2).toNat = mn - 1 := by omega
        rw [en]
        refine for_range (lo := 2) (n := mn - 1) (fun i σ H' => ∃ (vals : List Int) (kvs' : List (List Key × V)) (x5 x6 x7 x8 : Option V), σ = [some (.ref l), some (.int (w : Int)), some (.ref kd), some (.ref t), some (.ref f), x5, x6, x7, x8] ∧ H' f = some (.lst (vals.map V.int)) ∧
            (∀ v ∈ vals, ∃ A M B u, 2 ≤ M.length ∧ M.length ≤ w ∧ ls = A ++ M ++ B ∧ NOpt w (A ++ [M.sum] ++ B) u ∧ v = M.sum + u) ∧
            (∀ A M B, 2 ≤ M.length → M.length < 2 + i → ls = A ++ M ++ B → ∃ u, NOpt w (A ++ [M.sum] ++ B) u ∧ M.sum + u ∈ vals) ∧ vals.length ≤ i * 7 ∧ H' kd = some (.dT kvs') ∧ KnownN w kvs' ∧ kvs'.length ≤ kvs.length + accN ls.length i ∧ But [kd] H1 H')
          ⟨[], kvs, none, none, none, none, rfl, eff, by simp, fun A M B z1 z2 => by omega, by simp, s2 _ _ ek1, kn, by unfold accN; simp, But.same s2⟩ ?_ ?_
        · rintro i σ H3 hi ⟨vals, kvs3, x5, x6, x7, x8, rfl, ef, all, got, vl, ek3, kn3, kl3, k3⟩
          have et3 := k3 _ _ et (by simpa using ntk)
          have etp := accN_step ls.length i
          have ale := accN_le (n := ls.length) (by omega) n7 (i := i + 1) (by omega)
          have e2i : (2 : Int) + (i : Int) = ((2 + i : Nat) : Int) := by omega
          refine ⟨_, rfl, lenT ⟨t, rfl, et3⟩ rfl ⟨_, rfl, _, _, rfl, rfl, _, _, rfl, rfl, _, rfl, by rw [List.length_map]; omega, by rw [List.length_map]; omega, ?_⟩⟩
          have enj : ((((ls.map V.int).length : Nat) : Int) - (2 + (i : Int)) + 1).toNat = ls.length - (2 + i) + 1 := by rw [List.length_map]; omega
          rw [enj]
          refine for_range (lo := 0) (n := ls.length - (2 + i) + 1) (fun j σ H' => ∃ (vals : List Int) (kvs' : List (List Key × V)) (x6 x7 x8 : Option V), σ = [some (.ref l), some (.int (w : Int)), some (.ref kd), some (.ref t), some (.ref f), some (.int (2 + (i : Int))), x6, x7, x8] ∧ H' f = some (.lst (vals.map V.int)) ∧
              (∀ v ∈ vals, ∃ A M B u, 2 ≤ M.length ∧ M.length ≤ w ∧ ls = A ++ M ++ B ∧ NOpt w (A ++ [M.sum] ++ B) u ∧ v = M.sum + u) ∧
              (∀ A M B, 2 ≤ M.length → M.length < 2 + i → ls = A ++ M ++ B → ∃ u, NOpt w (A ++ [M.sum] ++ B) u ∧ M.sum + u ∈ vals) ∧
              (∀ A M B, M.length = 2 + i → A.length < j → ls = A ++ M ++ B → ∃ u, NOpt w (A ++ [M.sum] ++ B) u ∧ M.sum + u ∈ vals) ∧ vals.length ≤ i * 7 + j ∧ H' kd = some (.dT kvs') ∧ KnownN w kvs' ∧ kvs'.length ≤ kvs.length + accN ls.length i + j * En (ls.length - (2 + i) + 1) ∧ But [kd] H1 H')
            ⟨vals, kvs3, x6, x7, x8, rfl, ef, all, got, fun A M B _ z => by omega, by omega, ek3, kn3, by omega, k3⟩ ?_ ?_
          · rintro j σ H5 hj ⟨vals, kvs5, x6, x7, x8, rfl, ef5, all, got, gotj, vl, ek5, kn5, kl5, k15⟩
            have et5 := k15 _ _ et (by simpa using ntk)
            have sp3 := split3 ls j (2 + i)
            have ej : (0 : Int) + (j : Int) = ((j : Nat) : Int) := by omega
            have ejm : (0 : Int) + (j : Int) + (2 + (i : Int)) = ((j + (2 + i) : Nat) : Int) := by omega
            -- their sum
            refine ⟨_, rfl, _, rfl, _, rfl, _, rfl, _, rfl, _, _, rfl, rfl, _, rfl, ?_⟩
            dsimp only
            rw [ejm, ej]
            refine slTA et5 fun p H6 ep s6 => ?_
            rw [cut_mid, show j + (2 + i) - j = 2 + i by omega, ← List.map_drop, ← List.map_take] at ep
            refine ⟨p, _, rfl, SqT.of ep, ?_⟩
            have et6 := s6 _ _ et5
            -- the rest
            refine ⟨_, rfl, _, rfl, _, rfl, ?_⟩
            refine slTA et6 fun p1 H7 ep1 s7 => ?_
            rw [cut_to (by rw [List.length_map]; omega), ← List.map_take] at ep1
            refine ⟨p1, _, rfl, .inr (SqT.of ep1), fun q1 hq1 => ?_⟩
            have s8 : Same H7 (upd H7 q1 (.lst ((ls.take j).map V.int))) := Rs.Same.new hq1
            have eq1 : upd H7 q1 (.lst ((ls.take j).map V.int)) q1 = some _ := upd_same
            generalize upd H7 q1 (.lst ((ls.take j).map V.int)) = H8 at s8 eq1 ⊢
            refine ⟨_, rfl, szle (by show 1 ≤ 100000; decide), fun q2 hq2 => ?_⟩
            have s9 : Same H8 (upd H8 q2 (.lst [.int ((ls.drop j).take (2 + i)).sum])) := Rs.Same.new hq2
            have eq2 : upd H8 q2 (.lst [.int ((ls.drop j).take (2 + i)).sum]) q2 = some _ := upd_same
            generalize upd H8 q2 (.lst [.int ((ls.drop j).take (2 + i)).sum]) = H9 at s9 eq2 ⊢
            refine ⟨q1, q2, _, _, rfl, rfl, s9 _ _ eq1, eq2, szle (by rw [List.length_map, List.length_take]; show _ + 1 ≤ 100000; omega), fun q3 hq3 => ?_⟩
            have e10 : (ls.take j).map V.int ++ [V.int ((ls.drop j).take (2 + i)).sum] = (ls.take j ++ [((ls.drop j).take (2 + i)).sum]).map V.int := by rw [List.map_append]; rfl
            rw [e10]
            have s10 : Same H9 (upd H9 q3 (.lst ((ls.take j ++ [((ls.drop j).take (2 + i)).sum]).map V.int))) := Rs.Same.new hq3
            have eq3 : upd H9 q3 (.lst ((ls.take j ++ [((ls.drop j).take (2 + i)).sum]).map V.int)) q3 = some _ := upd_same
            generalize upd H9 q3 (.lst ((ls.take j ++ [((ls.drop j).take (2 + i)).sum]).map V.int)) = H10 at s10 eq3 ⊢
            have s610 := ((s7.trans s8).trans s9).trans s10
            have et10 := s610 _ _ et6
            refine ⟨_, rfl, _, rfl, _, rfl, _, _, rfl, rfl, _, rfl, ?_⟩
            dsimp only [tNoPart]
            rw [show (j : Int) + (2 + (i : Int)) = ((j + (2 + i) : Nat) : Int) by omega]
            refine slTA et10 fun p2 H11 ep2 s11 => ?_
            rw [cut_from (by rw [List.length_map]; omega), ← List.map_drop] at ep2
            refine ⟨p2, _, rfl, .inr (SqT.of ep2), fun q4 hq4 => ?_⟩
            have s12 : Same H11 (upd H11 q4 (.lst ((ls.drop (j + (2 + i))).map V.int))) := Rs.Same.new hq4
            have eq4 : upd H11 q4 (.lst ((ls.drop (j + (2 + i))).map V.int)) q4 = some _ := upd_same
            generalize upd H11 q4 (.lst ((ls.drop (j + (2 + i))).map V.int)) = H12 at s12 eq4 ⊢
            refine ⟨q3, q4, _, _, rfl, rfl, (s11.trans s12) _ _ eq3, eq4, szle (by rw [List.length_map, List.length_map, List.length_append, List.length_take, List.length_drop]; show _ + 1 + _ ≤ 100000; omega), fun q5 hq5 => ?_⟩
            rw [← List.map_append]
            generalize hA : ls.take j = A at *
            generalize hM : (ls.drop j).take (2 + i) = M at *
            generalize hB : ls.drop (j + (2 + i)) = B at *
            have lA : A.length = j := by rw [← hA, List.length_take]; omega
            have lM : M.length = 2 + i := by rw [← hM, List.length_take, List.length_drop]; omega
            have lAB : (A ++ [M.sum] ++ B).length = ls.length - (2 + i) + 1 := by
              rw [List.length_append, List.length_append, List.length_singleton, lA, ← hB, List.length_drop]
              omega
            have s13 : Same H12 (upd H12 q5 (.lst ((A ++ [M.sum] ++ B).map V.int))) := Rs.Same.new hq5
            have eq5 : upd H12 q5 (.lst ((A ++ [M.sum] ++ B).map V.int)) q5 = some _ := upd_same
            generalize upd H12 q5 (.lst ((A ++ [M.sum] ++ B).map V.int)) = H13 at s13 eq5 ⊢
            have s513 := s6.trans (s610.trans ((s11.trans s12).trans s13))
            have ef13 := s513 _ _ ef5
            have ef' : En ls.length ≤ 2520 := by
              have : ∀ n : Nat, n < 8 → En n ≤ 2520 := by decide
              exact this _ (by omega)
            have jf : (j + 1) * En (ls.length - (2 + i) + 1) ≤ (ls.length - (2 + i) + 1) * En (ls.length - (2 + i) + 1) := Nat.mul_le_mul_right _ (by omega)
            rw [Nat.succ_mul] at jf
            -- and again
            refine ⟨_, rfl, .inl ⟨rfl, _, SqL.of ef13⟩, _, rfl, _, rfl, _, rfl, _, rfl, q5, A ++ [M.sum] ++ B, w, kd, kvs5, rfl, eq5, rfl, w2, w1, rfl, s513 _ _ ek5, kn5, by omega, by omega, by omega, by rw [lAB]; omega, fun H14 kvs14 u nu ek14 kn14 kl14 k1314 => ?_⟩
            have ef14 := k1314 _ _ ef13 (by simpa using nfk)
            have k514 := (But.same s513).trans k1314
            refine ⟨_, _, rfl, rfl, f, _, _, rfl, rfl, ef14, szlt (by rw [List.length_map]; omega), vals ++ [M.sum + u], kvs14, _, _, _, rfl, by rw [upd_same, List.map_append] <;> rfl, fun y hy => ?_, fun A' M' B' z1 z2 z3 => ?_, fun A' M' B' z1 z2 z3 => ?_, by rw [List.length_append, List.length_singleton]; omega, up ek14 nfk.symm, kn14, by rw [lAB] at kl14; rw [Nat.succ_mul]; omega, (k15.trans k514).mut hf⟩
            · rcases List.mem_append.mp hy with z | z
              · exact all y z
              · rw [List.mem_singleton.mp z]
                exact ⟨A, M, B, u, by omega, by omega, sp3, nu, rfl⟩
            · obtain ⟨u', a, b⟩ := got A' M' B' z1 z2 z3
              exact ⟨u', a, List.mem_append_left _ b⟩
            · by_cases z : A'.length < j
              · obtain ⟨u', a, b⟩ := gotj A' M' B' z1 z z3
                exact ⟨u', a, List.mem_append_left _ b⟩
              · have ea : A'.length = j := by omega
                obtain ⟨t1, t2, t3⟩ := split_at (A := A') (M := M') (B := B')
                rw [← z3, ea, hA] at t1
                rw [← z3, ea, z1, hM] at t2
                rw [← z3, ea, z1, hB] at t3
                subst t1 t2 t3
                exact ⟨u, nu, List.mem_append_right _ (List.mem_singleton.mpr rfl)⟩
          · rintro σ H5 ⟨vals, kvs5, x6, x7, x8, rfl, ef5, all, got, gotj, vl, ek5, kn5, kl5, k15⟩
            refine ⟨vals, kvs5, _, x6, x7, x8, rfl, ef5, all, fun A M B z1 z2 z3 => ?_, by rw [Nat.succ_mul]; omega, ek5, kn5, by omega, k15⟩
            by_cases z : M.length < 2 + i
            · exact got A M B z1 z z3
            · refine gotj A M B (by omega) ?_ z3
              have := congrArg List.length z3
              rw [List.length_append, List.length_append] at this
              omega
        · rintro σ H3 ⟨vals, kvs3, x5, x6, x7, x8, rfl, ef, all, got, vl, ek3, kn3, kl3, k3⟩
          have gotall : ∀ A M B, 2 ≤ M.length → M.length ≤ w → ls = A ++ M ++ B → ∃ u, NOpt w (A ++ [M.sum] ++ B) u ∧ M.sum + u ∈ vals := fun A M B z1 z2 z3 => got A M B z1 (by
            have := congrArg List.length z3
            rw [List.length_append, List.length_append] at this
            omega) z3
          obtain ⟨u0, _, g0⟩ := gotall _ _ _ (by rw [List.length_take, List.length_drop]; omega : 2 ≤ ((ls.drop 0).take 2).length) (by rw [List.length_take]; omega) (split3 ls 0 2)
          have vp := List.length_pos_of_mem g0
          have ale := accN_le (n := ls.length) (by omega) n7 (i := mn - 1) (by omega)
          have et3 := k3 _ _ et (by simpa using ntk)
          refine ⟨_, rfl, f, vals, rfl, SqL.of ef, vp, fun m hm1 hm2 => ?_⟩
          have nm : NOpt w ls m := nopt_of (by omega) (all m hm1) (fun A M B v z1 z2 z3 nv => by
            obtain ⟨u, nu, hu⟩ := gotall A M B z1 z2 z3
            have e := nu.uniq nv
            rw [← e]
            exact hm2 _ hu) fun A M B z1 z2 z3 => let ⟨u, nu, _⟩ := gotall A M B z1 z2 z3; ⟨u, nu⟩
          refine ⟨_, rfl, _, rfl, kd, _, rfl, DPut.t ek3 (by rw [keyN_kV]; exact et3) (szlt (by omega)), ?_⟩
          refine fin _ _ m nm upd_same (up et3 ntk) (KnownN.put kn3 nm) ?_ ?_ ?_ _ rfl rfl
          · have := putN_most kvs3 (ls.map Sum.inl : List Key) (.int m)
            omega
          · exact ((But.same s1).trans k3).put (by simp)
          · rw [valV_put, if_pos rfl]
end Rs

namespace Rs
open PySem PySem.Spec PyProof.Rows L2
abbrev N_law_right : List Str := ["_law_lengths_here", "_law_ways", "_law_handed", "_law_found", "_law_plan_here"]
abbrev P_law_right : List Str := ["_law_lengths_here", "_law_ways"]
def sp_law_right (K : PySem.W.Frag) : Sp := fun vs H Q E => match vs with
  | [lv, wv] => ∃ (l : Addr) (ls : List Int) (w : Nat), lv = .ref l ∧ H l = some (.lst (ls.map V.int)) ∧ GoodLens ls ∧ wv = .int (w : Int) ∧ 2 ≤ w ∧ w ≤ 6 ∧ ∀ H' cl el, NbOk (stretchL ls.length) ls w cl el → EndsOk ls.length w el → Same H H' → Q (.int (cOf cl 0 (ls.length : Int))) H'
  | _ => False
def t_law_right (K : PySem.W.Frag) (E : XK) : TS := (tSeq (tAsg (tCB1 (xList K) (tVar 0)) (gName 2))
  (tSeq (tAsg (tCall (sp_neighbours K) [] E (tCons (tVar 2) (tCons (tVar 1) tNil))) (gTup K 2 (gCons (gName 3) (gCons (gName 4) gNil))))
   (tSeq (tIfS (tOr (tTest (tOp (rNeD K) (tCall (sp_law_in K) [] E (tCons (tVar 4) tNil)) (tLstRg (tRg1 (tCB1 (xLen K) (tVar 0)))))) (tOr (tNot (tB (tCall (sp_law_fits K) [] E (tCons (tVar 4) (tCons (tVar 1) tNil))))) (tTest (tOp (rNeD K) (tVar 2) (tVar 0))))) (tRet (tC .non)) tNext)
    (tSeq (tIfS (tNot (tB (tCall (sp_law_alike K) [] E (tCons (tVar 3) (tCons (tCall (sp_law_cost K) [] E (tCons (tVar 0) (tCons (tVar 4) tNil))) tNil))))) (tRet (tC .non)) tNext)
     (tRet (tIf (tTest (tOp rEq (tCall (sp_bound K) [] E (tCons (tVar 0) (tCons (tVar 1) (tCons (tCall (sp_paper K) [] E (tCons (tVar 0) (tCons (tVar 1) tNil))) tNil)))) (tVar 3))) (tVar 3) (tC .non)))))))
theorem cLook_mem {cl : Costs} {b e x : Int} (h : cLook cl b e = some x) : ((b, e), x) ∈ cl := by
  unfold cLook at h
  obtain ⟨q, hq, rfl⟩ := Option.map_eq_some_iff.mp h
  have a := List.mem_of_find?_eq_some hq
  have c := List.find?_some hq
  have c : q.1 = (b, e) := of_decide_eq_true c
  rw [← c]
  exact a
/-- a told paper has the numbers of the costs -/
theorem cOf_told {n : Nat} {cl tl : Costs} {p q : Int} (hk : cl.map (·.1) = stretchL n) (pm : (tl.map (·.1)).Perm (stretchL n)) (hv : ∀ r ∈ tl, r.1 = (p, q) → r.2 = cOf cl p q) : cOf tl p q = cOf cl p q := by
  by_cases h : (p, q) ∈ stretchL n
  · have := cLook_in (pm.mem_iff.mpr h)
    exact hv _ (cLook_mem this) rfl
  · have a : cLook tl p q = none := look_none fun z => h (pm.mem_iff.mp z)
    have b : cLook cl p q = none := look_none fun z => h (by rw [← hk]; exact z)
    unfold cOf
    rw [a, b]
theorem BestCut.uniq {c : Int → Int → Int} {b e s s' : Int} {w : Nat} {ps ps' : List Int} (B : BestCut c b e w s ps) (B' : BestCut c b e w s' ps') : s = s' := by
  have a := B.min ps' B'.asc B'.two B'.le
  have b := B'.min ps B.asc B.two B.le
  rw [← B'.sum] at a
  rw [← B.sum] at b
  omega
theorem pure_law_right {K : PySem.W.Frag} : ∀ vs H Q E, sp_law_right K vs H Q E → t_law_right K E { nx := fun _ H' => Q .non H', rt := Q } (start N_law_right vs) H := by
  intro vs H Q E hyp
  match vs, hyp with
  | [lv, wv], hyp =>
    obtain ⟨l, ls, w, rfl, hl, g, rfl, w2, w6, k⟩ := hyp
    have g1 := g.pos
    have g4 := g.le
    refine ⟨_, rfl, l, _, rfl, .inl (SqL.of hl), fun p hp => ?_⟩
    have s1 : Same H (upd H p (.lst (ls.map V.int))) := Rs.Same.new hp
    have ep : upd H p (.lst (ls.map V.int)) p = some (.lst (ls.map V.int)) := upd_same
    generalize upd H p (.lst (ls.map V.int)) = H1 at s1 ep ⊢
    refine ⟨_, rfl, _, rfl, p, ls, w, rfl, ep, g, rfl, w2, w6, fun t v cl el H2 ht et hv EO N s2 => ?_⟩
    obtain ⟨rn, fit⟩ := plOf_ok EO 42 0 ((ls.length : Nat) : Int) (Int.le_refl _) (by omega) (Int.le_refl _) (by omega)
    have pc := plOf_cost N EO 42 0 ((ls.length : Nat) : Int) (Int.le_refl _) (by omega) (Int.le_refl _) (by omega)
    generalize plOf el 42 0 ((ls.length : Nat) : Int) = pl at *
    refine ⟨t, _, rfl, SqT.of et, rfl, _, _, rfl, _, _, rfl, rfl, ?_⟩
    have s02 := s1.trans s2
    have rl := congrArg List.length rn
    rw [rng_len] at rl
    have dp := Pl.deep pl fit
    have slim := Pl.slim_fits (by omega) pl fit
    have same : ∀ (x y : Addr) (ns : List Int) (H' : Hp) (C : V → Hp → Prop), ns.length ≤ 100000 → H' x = some (.lst (ns.map V.int)) → H' y = some (.lst (ns.map V.int)) → C (.bl false) H' → rNeD K (.ref x) (.ref y) H' C := fun x y ns H' C hn h1 h2 qq => by
      have ok := ints_ok hn
      refine ⟨_, _, ints_dp h1, ints_dp h2, ok.shaped (by decide), ok.shaped (by decide), ?_⟩
      rw [ok.eqv]
      exact qq
    refine ⟨_, rfl, pl, hv, by omega, by omega, fun lr H3 hlr er s3 => ?_⟩
    rw [rn] at er
    have s03 := s02.trans s3
    refine ⟨_, rfl, lenL (s03 _ _ hl) rfl ⟨_, rfl, RgOk.of_le (by decide) (by rw [List.length_map]; omega) (by decide) (by omega), fun q2 hq2 => ?_⟩⟩
    have erg : rgV 0 (((ls.map V.int).length : Nat) : Int) = (rng 0 ls.length).map V.int := by
      unfold rgV rng
      rw [List.length_map, List.map_map]
      rfl
    rw [erg]
    have s4 : Same H3 (upd H3 q2 (.lst ((rng 0 ls.length).map V.int))) := Rs.Same.new hq2
    have eq2 : upd H3 q2 (.lst ((rng 0 ls.length).map V.int)) q2 = some _ := upd_same
    generalize upd H3 q2 (.lst ((rng 0 ls.length).map V.int)) = H4 at s4 eq2 ⊢
    have s04 := s03.trans s4
    refine same lr q2 _ H4 _ (by rw [rng_len]; omega) (s4 _ _ er) eq2 ⟨_, rfl, ?_⟩
    have hv4 := PlR.st _ _ _ _ (TupLe.same (s3.trans s4)) hv
    refine ⟨_, rfl, _, rfl, pl, w, hv4, by omega, rfl, by omega, fit, fun H5 s5 => ⟨_, rfl, ?_⟩⟩
    have s05 := s04.trans s5
    refine ⟨_, rfl, _, rfl, same p l ls H5 _ (by omega) ((s2.trans (s3.trans (s4.trans s5))) _ _ ep) (s05 _ _ hl) ⟨_, rfl, ?_⟩⟩
    have hv5 := PlR.st _ _ _ _ (TupLe.same s5) hv4
    have rin : ∀ r ∈ pl.runs, 0 ≤ r ∧ r < ls.length := fun r hr => by
      rw [rn] at hr
      have := rng_in hr
      constructor <;> omega
    refine ⟨_, rfl, _, rfl, _, rfl, l, ls, pl, rfl, s05 _ _ hl, hv5, by omega, by omega, slim, by omega, rin, fun H6 s6 => ?_⟩
    rw [pc]
    refine ⟨.int (cOf cl 0 (ls.length : Int)), trivial, .int _, .int _, _, rfl, ?_⟩
    have s06 := s05.trans s6
    -- the paper
    refine ⟨_, rfl, _, rfl, _, rfl, _, rfl, l, ls, w, rfl, s06 _ _ hl, g, rfl, w2, w6, fun f H7 cl2 el2 tl hf Lf N2 tp tvv s7 => ?_⟩
    have s07 := s06.trans s7
    have eqc : ∀ p q, cOf tl p q = cOf cl2 p q := fun p q => cOf_told N2.keys tp fun r hr e => by
      have := tvv r hr
      rw [e] at this
      exact this
    have eqf : (fun p q => cOf tl p q) = fun p q => cOf cl2 p q := funext fun p => funext fun q => eqc p q
    have eqf : cOf tl = cOf cl2 := eqf
    have u := (nopt_all N g1).uniq (nopt_all N2 g1)
    refine ⟨l, ls, w, f, tl, rfl, s07 _ _ hl, g, rfl, w2, w6, rfl, Lf, tp, .inl ⟨fun b e s ps hbe B => ?_, fun H8 s8 => ?_⟩⟩
    · rw [eqf] at B ⊢
      obtain ⟨s', B', es⟩ := N2.best b e hbe
      have := B.uniq B'
      omega
    · rw [eqf, ← u]
      refine ⟨_, rfl, rfl, _, rfl, ?_⟩
      rw [decide_eq_true rfl]
      exact ⟨_, rfl, k H8 cl el N EO (s07.trans s8)⟩
abbrev N_law_is_refused : List Str := ["_law_box", "_law_lengths_here", "_law_ways", "_law_told", "_law_at", "_law_begin", "_law_end", "_law_number"]
abbrev P_law_is_refused : List Str := ["_law_box", "_law_lengths_here", "_law_ways"]
def sp_law_is_refused (K : PySem.W.Frag) : Sp := fun vs H Q E => match vs with
  | [b, lv, wv] => ∃ (a l0 l : Addr) (ls : List Int) (w : Nat), b = .ref a ∧ lv = .ref l ∧ H l = some (.lst (ls.map V.int)) ∧ l ∉ [a, l0] ∧ GoodLens ls ∧ wv = .int (w : Int) ∧ 2 ≤ w ∧ w ≤ 6 ∧ Box H a l0 ∧ ∀ H', Box H' a l0 → But [a, l0] H H' → Q (.bl true) H'
  | _ => False
def t_law_is_refused (K : PySem.W.Frag) (E : XK) : TS := (tSeq (tAsg (tCall (sp_paper K) [] E (tCons (tVar 1) (tCons (tVar 2) tNil))) (gName 3))
  (tSeq (tIfS (tTest (tOp (xEqE K) (tVar 3) (tLst tNil))) (tRet (tC (.bl true))) tNext)
   (tSeq (tAsg (tCall (sp_law_take K) [] E (tCons (tVar 0) (tCons (tCB1 (xLen K) (tVar 3)) tNil))) (gName 4))
    (tSeq (tAsg (tOp (rIxL K) (tVar 3) (tVar 4)) (gTup K 3 (gCons (gName 5) (gCons (gName 6) (gCons (gName 7) gNil)))))
     (tSeq (tTryO K (.ref (He.ga K "BadPaper")) E (fun Wt => (tDrop (tCallS (sp_bound K) (WE Wt) (tCons (tVar 1) (tCons (tVar 2) (tCons (tOp rCat (tOp rCat (tSl (rSlL K) (tVar 3) tNoPart (tPart (tVar 4))) (tLst (tCons (tTup (tCons (tVar 5) (tCons (tVar 6) (tCons (tOpC xAdd (tVar 7) (.int 1)) tNil)))) tNil))) (tSl (rSlL K) (tVar 3) (tPart (tOpC xAdd (tVar 4) (.int 1))) tNoPart)) tNil)))))) (tRet (tC (.bl true))))
      (tRet (tC (.bl false))))))))
theorem perm_at {α : Type} {l : List α} {j : Nat} {x : α} (h : l[j]? = some x) : l = l.take j ++ [x] ++ l.drop (j + 1) := by
  conv => lhs; rw [← List.take_append_drop j l, drop_cons h]
  rw [List.append_assoc]
  rfl
theorem pure_law_is_refused {K : PySem.W.Frag} (xm : PySem.W.exmOne K (.ref (He.ga K "BadPaper")) (.ref (He.ga K "BadPaper")) = some true) : ∀ vs H Q E, sp_law_is_refused K vs H Q E → t_law_is_refused K E { nx := fun _ H' => Q .non H', rt := Q } (start N_law_is_refused vs) H := by
  intro vs H Q E hyp
  match vs, hyp with
  | [b, lv, wv], hyp =>
    obtain ⟨a, l0, l, ls, w, rfl, rfl, hl, nl, g, rfl, w2, w6, B, k⟩ := hyp
    have g1 := g.pos
    have g4 := g.le
    refine ⟨_, rfl, _, rfl, l, ls, w, rfl, hl, g, rfl, w2, w6, fun f H1 cl el tl hf Lf N tp tvv s1 => ?_⟩
    have nf := B.fresh hf
    obtain ⟨tv, et, pt⟩ := Lf
    have ltl := pt.length
    have B1 := B.same s1
    have sl := stretch_len (n := ls.length) g4
    have lpm := tp.length_eq
    rw [List.length_map] at lpm
    refine ⟨_, rfl, sz0, fun q hq => eqE et hq (b := tv.isEmpty) rfl ⟨_, rfl, ?_⟩⟩
    have s2 : Same H1 (upd H1 q (.lst [])) := Rs.Same.new hq
    generalize upd H1 q (.lst []) = H2 at s2 ⊢
    have s02 := s1.trans s2
    have B2 := B1.same s2
    cases hte : tv.isEmpty with
    | true => exact k H2 B2 (But.same s02)
    | false =>
      have tpos : 0 < tv.length := by
        cases tv with
        | nil => cases hte
        | cons x r => simp
      have et2 := s2 _ _ et
      refine ⟨_, rfl, _, rfl, lenL et2 rfl ⟨a, l0, _, rfl, rfl, by omega, by omega, B2, fun r H3 r0 r1 B3 k3 => ?_⟩⟩
      obtain ⟨j, rfl⟩ : ∃ j : Nat, r = (j : Int) := ⟨r.toNat, by omega⟩
      have hj : j < tv.length := by omega
      have et3 := k3 _ _ et2 nf
      have pt3 := Paired.tl TripAt.st (B2.tup k3) (Paired.tl TripAt.st (TupLe.same s2) pt)
      obtain ⟨⟨⟨b, e⟩, num⟩, hq3, ta, eta, hta⟩ := P2.get pt3 (List.getElem?_eq_getElem hj)
      dsimp only at hta
      refine ⟨_, rfl, _, rfl, ixL et3 (j := j) rfl (List.getElem?_eq_getElem hj) ?_⟩
      rw [eta]
      refine ⟨ta, _, rfl, SqT.of hta, rfl, _, _, rfl, _, _, rfl, _, _, rfl, rfl, ?_⟩
      have hl3 := k3 _ _ (s02 _ _ hl) nl
      have k03 : But [a, l0] H H3 := (But.same s02).trans k3
      -- the paper with one number more
      refine ⟨_, rfl, _, rfl, _, rfl, _, rfl, _, rfl, f, tv, rfl, SqL.of et3, fun q1 hq1 => ?_⟩
      rw [cut_to (by omega)]
      have s4 : Same H3 (upd H3 q1 (.lst (tv.take j))) := Rs.Same.new hq1
      have eq1 : upd H3 q1 (.lst (tv.take j)) q1 = some _ := upd_same
      generalize upd H3 q1 (.lst (tv.take j)) = H4 at s4 eq1 ⊢
      refine ⟨_, rfl, _, rfl, _, rfl, _, _, rfl, rfl, szle (by show 3 ≤ 100000; decide), fun t3 ht3 => ⟨szle (by show 1 ≤ 100000; decide), fun q2 hq2 => ?_⟩⟩
      have s5 : Same H4 (upd H4 t3 (.tup [.int b, .int e, .int (num + 1)])) := Rs.Same.new ht3
      have et5 : upd H4 t3 (.tup [.int b, .int e, .int (num + 1)]) t3 = some _ := upd_same
      generalize upd H4 t3 (.tup [.int b, .int e, .int (num + 1)]) = H5 at s5 et5 hq2 ⊢
      have s6 : Same H5 (upd H5 q2 (.lst [.ref t3])) := Rs.Same.new hq2
      have eq2 : upd H5 q2 (.lst [.ref t3]) q2 = some _ := upd_same
      generalize upd H5 q2 (.lst [.ref t3]) = H6 at s6 eq2 ⊢
      refine ⟨q1, q2, _, _, rfl, rfl, (s5.trans s6) _ _ eq1, eq2, szle (by rw [List.length_take]; show _ + 1 ≤ 100000; omega), fun q3 hq3_ => ?_⟩
      have s7 : Same H6 (upd H6 q3 (.lst (tv.take j ++ [.ref t3]))) := Rs.Same.new hq3_
      have eq3 : upd H6 q3 (.lst (tv.take j ++ [.ref t3])) q3 = some _ := upd_same
      generalize upd H6 q3 (.lst (tv.take j ++ [.ref t3])) = H7 at s7 eq3 ⊢
      have s37 := ((s4.trans s5).trans s6).trans s7
      refine ⟨_, rfl, _, rfl, _, _, rfl, rfl, _, rfl, ?_⟩
      dsimp only [tNoPart]
      rw [show (j : Int) + 1 = ((j + 1 : Nat) : Int) by omega]
      refine ⟨f, tv, rfl, SqL.of (s37 _ _ et3), fun q4 hq4 => ?_⟩
      rw [cut_from (by omega)]
      have s8 : Same H7 (upd H7 q4 (.lst (tv.drop (j + 1)))) := Rs.Same.new hq4
      have eq4 : upd H7 q4 (.lst (tv.drop (j + 1))) q4 = some _ := upd_same
      generalize upd H7 q4 (.lst (tv.drop (j + 1))) = H8 at s8 eq4 ⊢
      refine ⟨q3, q4, _, _, rfl, rfl, s8 _ _ eq3, eq4, szle (by rw [List.length_append, List.length_take, List.length_drop]; show _ + 1 + _ ≤ 100000; omega), fun q5 hq5 => ?_⟩
      have s9 : Same H8 (upd H8 q5 (.lst (tv.take j ++ [.ref t3] ++ tv.drop (j + 1)))) := Rs.Same.new hq5
      have eq5 : upd H8 q5 (.lst (tv.take j ++ [.ref t3] ++ tv.drop (j + 1))) q5 = some _ := upd_same
      generalize upd H8 q5 (.lst (tv.take j ++ [.ref t3] ++ tv.drop (j + 1))) = H9 at s9 eq5 ⊢
      have s39 := (s37.trans s8).trans s9
      have s59 := ((s6.trans s7).trans s8).trans s9
      have B9 := B3.same s39
      have k09 := k03.trans (But.same s39)
      have pt9 := Paired.tl TripAt.st (TupLe.same s39) pt3
      have sp := perm_at hq3
      obtain ⟨tl', htl⟩ : ∃ tl', tl' = tl.take j ++ [((b, e), num + 1)] ++ tl.drop (j + 1) := ⟨_, rfl⟩
      have keys : tl'.map (·.1) = tl.map (·.1) := by
        conv => rhs; rw [sp]
        rw [htl, List.map_append, List.map_append, List.map_append, List.map_append]
        rfl
      have tp' : (tl'.map (·.1)).Perm (stretchL ls.length) := by rw [keys]; exact tp
      have nd : (tl'.map (·.1)).Nodup := tp'.nodup_iff.mpr (stretch_nd _)
      have bin : (b, e) ∈ stretchL ls.length := tp.mem_iff.mp (List.mem_map_of_mem (List.mem_of_getElem? hq3))
      have numv : num = cOf cl b e := tvv _ (List.mem_of_getElem? hq3)
      have at_be : cOf tl' b e = num + 1 := by
        have hin : ((b, e), num + 1) ∈ tl' := by rw [htl]; simp
        have := cLook_mem (cLook_in (tp'.mem_iff.mpr bin))
        have u : ∀ {l : Costs}, (l.map (·.1)).Nodup → ∀ {x y}, x ∈ l → y ∈ l → x.1 = y.1 → x = y := by
          intro l
          induction l with
          | nil => intro _ x y h; simp at h
          | cons r l ih =>
            intro nd x y hx hy exy
            rw [List.map_cons, List.nodup_cons] at nd
            rcases List.mem_cons.mp hx with ex | hx
            · rcases List.mem_cons.mp hy with ey | hy
              · rw [ex, ey]
              · exact absurd (by rw [← ex, exy]; exact List.mem_map_of_mem hy) nd.1
            · rcases List.mem_cons.mp hy with ey | hy
              · exact absurd (by rw [← ey, ← exy]; exact List.mem_map_of_mem hx) nd.1
              · exact ih nd.2 hx hy exy
        have := u nd this hin rfl
        injection this
      have else_ : ∀ p q, (p, q) ≠ (b, e) → cOf tl' p q = cOf cl p q := fun p q ne => cOf_told N.keys tp' fun r hr er => by
        rw [htl] at hr
        have : r ∈ tl := by
          rw [sp]
          rcases List.mem_append.mp hr with z | z
          · rcases List.mem_append.mp z with z | z
            · exact List.mem_append_left _ (List.mem_append_left _ z)
            · rw [List.mem_singleton.mp z] at er
              exact absurd er.symm ne
          · exact List.mem_append_right _ z
        have h := tvv r this
        rw [er] at h
        exact h
      refine ⟨l, ls, w, q5, tl', rfl, s39 _ _ hl3, g, rfl, w2, w6, rfl, ⟨_, eq5, ?_⟩, tp', .inr ⟨⟨b, e, bin, fun s ps Bc => ?_⟩, fun H10 s10 => ?_⟩⟩
      · rw [htl]
        exact P2.app (P2.app (P2.take j pt9) (P2.one ⟨t3, rfl, s59 _ _ et5⟩)) (P2.drop (j + 1) pt9)
      · obtain ⟨s', B', es⟩ := N.best b e bin
        have Bc' : BestCut (cOf cl) b e w s ps := Bc.congr fun p q _ _ _ ne => else_ p q fun z => ne (by injection z with z1 z2; exact ⟨z1, z2⟩)
        have := Bc'.uniq B'
        rw [at_be, numv]
        omega
      · exact ⟨true, xm, fun _ c hc => k H10 (B9.same s10) (k09.trans (But.same s10)), fun z => by cases z⟩
end Rs

namespace Rs
open PySem PySem.Spec PyProof.Rows L2
abbrev N_law : List Str := ["_law_script", "_law_box", "_law_turn", "_law_lengths_here", "_law_ways", "_law_found", "_law_again"]
abbrev P_law : List Str := ["_law_script"]
theorem GoodLens.rev {a : List Int} (g : GoodLens a) : GoodLens a.reverse := ⟨by rw [List.length_reverse]; exact g.pos, by rw [List.length_reverse]; exact g.le, fun x hx => g.all x (List.mem_reverse.mp hx)⟩
def sp_law (K : PySem.W.Frag) : Sp := fun vs H Q E => match vs with
  | [s] => ∃ (p : Addr) (ns : List Int), s = .ref p ∧ SqL K H p (ns.map V.int) ∧ ns.length ≤ 63 ∧ ∀ H', Q (.bl true) H'
  | _ => False
def t_law (K : PySem.W.Frag) (E : XK) : TS := (tSeq (tAsg (tCall (sp_law_begun K) [] E (tCons (tVar 0) tNil)) (gName 1))
  (tSeq (tFor (iRng1 (tConsC (.int 2) tNil)) (gName 2) 
     (tSeq (tAsg (tCall (sp_law_lengths K) [] E (tCons (tVar 1) (tConsC (.int 7) tNil))) (gName 3))
     (tSeq (tAsg (tOpD xAdd (.int 2) (tCall (sp_law_take K) [] E (tCons (tVar 1) (tConsC (.int 5) tNil)))) (gName 4))
      (tIfS (tTest (tOp rNe (tCall (sp_law_right K) [] E (tCons (tVar 3) (tCons (tVar 4) tNil))) (tCall (sp_law_fewest K) [] E (tCons (tVar 3) (tCons (tVar 4) (tCons tDNewT tNil)))))) (tRet (tC (.bl false))) tNext))))
   (tSeq (tFor (iRng1 (tConsC (.int 2) tNil)) (gName 2) 
      (tSeq (tAsg (tCall (sp_law_lengths K) [] E (tCons (tVar 1) (tCons (tIf (tTest (tOpC rEq (tVar 2) (.int 0))) (tOp (rIxL K) (tLst (tConsC (.int 16) (tConsC (.int 24) (tConsC (.int 24) (tConsC (.int 40) tNil))))) (tCall (sp_law_take K) [] E (tCons (tVar 1) (tConsC (.int 4) tNil)))) (tC (.int 12))) tNil))) (gName 3))
      (tSeq (tAsg (tOpD xAdd (.int 2) (tCall (sp_law_take K) [] E (tCons (tVar 1) (tCons (tIf (tTest (tOpC xLt (tCB1 (xLen K) (tVar 3)) (.int 25))) (tC (.int 5)) (tC (.int 2))) tNil)))) (gName 4))
       (tSeq (tAsg (tCall (sp_law_right K) [] E (tCons (tVar 3) (tCons (tVar 4) tNil))) (gName 5))
        (tSeq (tIfS (tOr (tTest (tOpC rIsN (tVar 5) .non)) (tOr (tTest (tOp xGt (tOpC (rIxT K) (tCall (sp_cheapest K) [] E (tCons (tVar 3) (tCons (tVar 4) tNil))) (.int 0)) (tVar 5))) (tNot (tB (tCall (sp_law_is_refused K) [] E (tCons (tVar 1) (tCons (tVar 3) (tCons (tVar 4) tNil)))))))) (tRet (tC (.bl false))) tNext)
         (tSeq (tIfS (tAnd (tTest (tOpC xLt (tCB1 (xLen K) (tVar 3)) (.int 17))) (tTest (tOp rNe (tCall (sp_law_right K) [] E (tCons (tRevL K (tVar 3)) (tCons (tVar 4) tNil))) (tVar 5)))) (tRet (tC (.bl false))) tNext)
          (tFor (iRng1 (tConsC (.int 4) tNil)) (gName 6) 
             (tIfS (tTest (tOp xLt (tCall (sp_law_cost K) [] E (tCons (tVar 3) (tCons (tCall (sp_law_side K) [] E (tCons (tVar 1) (tCons (tLstRg (tRg1 (tCB1 (xLen K) (tVar 3)))) (tCons (tVar 4) tNil)))) tNil))) (tVar 5))) (tRet (tC (.bl false))) tNext))))))))
    (tRet (tC (.bl true))))))
theorem pure_law {K : PySem.W.Frag} : ∀ vs H Q E, sp_law K vs H Q E → t_law K E { nx := fun _ H' => Q .non H', rt := Q } (start N_law vs) H := by
  intro vs H Q E h
  match vs, h with
  | [s], h =>
    obtain ⟨p, ns, rfl, hs, hlen, k⟩ := h
    refine ⟨_, rfl, p, ns, rfl, hs, hlen, fun a l H1 _ _ B s1 => ?_⟩
    refine ⟨_, rfl, by decide, by decide, ?_⟩
    refine for_range (lo := 0) (n := (2 : Int).toNat) (fun i σ H' => Box H' a l ∧ ∃ x2 x3 x4, σ = [some (.ref p), some (.ref a), x2, x3, x4, none, none]) ⟨B, _, _, _, rfl⟩ ?_ ?_
    · rintro i σ H2 hi ⟨B2, x2, x3, x4, rfl⟩
      refine ⟨_, rfl, a, l, _, rfl, rfl, by decide, by decide, B2, fun f ls H3 hf ef gl lm B3 k3 => ?_⟩
      have ff := B2.fresh hf
      refine ⟨_, rfl, a, l, _, rfl, rfl, by decide, by decide, B3, fun r H4 r0 r1 B4 k4 => ⟨_, _, rfl, rfl, ?_⟩⟩
      obtain ⟨w, ew, hw2, hw6⟩ : ∃ w : Nat, (2 + r : Int) = (w : Int) ∧ 2 ≤ w ∧ w ≤ 6 := ⟨(2 + r).toNat, by omega, by omega, by omega⟩
      dsimp only
      rw [ew]
      have ef4 := k4 _ _ ef ff
      have gl1 := gl.pos
      refine ⟨_, rfl, _, rfl, f, ls, w, rfl, ef4, gl, rfl, hw2, hw6, fun H5 cl el N EO s5 => ?_⟩
      refine ⟨_, rfl, _, rfl, fun kd hkd => ?_⟩
      have s6 : Same H5 (upd H5 kd (.dT [])) := Rs.Same.new hkd
      have ekd : upd H5 kd (.dT []) kd = some (.dT []) := upd_same
      have B5 := B4.same s5
      have kfr := B5.fresh hkd
      generalize upd H5 kd (.dT []) = H6 at s6 ekd ⊢
      have ef' : En ls.length ≤ 2520 := by
        have : ∀ n : Nat, n < 8 → En n ≤ 2520 := by decide
        exact this _ (by omega)
      refine ⟨f, ls, w, kd, [], rfl, s6 _ _ (s5 _ _ ef4), rfl, hw2, by omega, rfl, ekd, fun ns v z => (by cases z), gl1, by omega, by omega, by show 0 + En ls.length ≤ 50000; omega, fun H7 kvs7 m nm _ _ _ k7 => ?_⟩
      have u := (nopt_all N gl1).uniq nm
      subst u
      refine ⟨rfl, _, rfl, ?_⟩
      rw [decide_eq_true rfl]
      have B6 := B5.same s6
      have : Box H7 a l := B6.keep (fun o e => k7 _ _ e (by simp only [List.mem_singleton]; intro z; exact kfr (by rw [← z]; simp))) (fun o e => k7 _ _ e (by simp only [List.mem_singleton]; intro z; exact kfr (by rw [← z]; simp)))
      exact ⟨this, _, _, _, rfl⟩
    · rintro σ H2 ⟨B2, x2, x3, x4, rfl⟩
      refine ⟨_, rfl, by decide, by decide, ?_⟩
      refine for_range (lo := 0) (n := (2 : Int).toNat) (fun i σ H' => Box H' a l ∧ ∃ x2 x3 x4 x5 x6, σ = [some (.ref p), some (.ref a), x2, x3, x4, x5, x6]) ⟨B2, _, _, _, _, _, rfl⟩ ?_ ?_
      · clear B2
        rintro i σ H2 hi ⟨B2, x2, x3, x4, x5, x6, rfl⟩
        have rest0 : ∀ (n : Int) H2', 1 ≤ n → n ≤ 40 → Box H2' a l → sp_law_lengths K [.ref a, .int n] H2' (fun v H3 => gName 3 v [some (.ref p), some (.ref a), some (.int (0 + (i : Int))), x3, x4, x5, x6] H3 fun σ H => (tSeq (tAsg (tOpD xAdd (.int 2) (tCall (sp_law_take K) [] E (tCons (tVar 1) (tCons (tIf (tTest (tOpC xLt (tCB1 (xLen K) (tVar 3)) (.int 25))) (tC (.int 5)) (tC (.int 2))) tNil)))) (gName 4))
       (tSeq (tAsg (tCall (sp_law_right K) [] E (tCons (tVar 3) (tCons (tVar 4) tNil))) (gName 5))
        (tSeq (tIfS (tOr (tTest (tOpC rIsN (tVar 5) .non)) (tOr (tTest (tOp xGt (tOpC (rIxT K) (tCall (sp_cheapest K) [] E (tCons (tVar 3) (tCons (tVar 4) tNil))) (.int 0)) (tVar 5))) (tNot (tB (tCall (sp_law_is_refused K) [] E (tCons (tVar 1) (tCons (tVar 3) (tCons (tVar 4) tNil)))))))) (tRet (tC (.bl false))) tNext)
         (tSeq (tIfS (tAnd (tTest (tOpC xLt (tCB1 (xLen K) (tVar 3)) (.int 17))) (tTest (tOp rNe (tCall (sp_law_right K) [] E (tCons (tRevL K (tVar 3)) (tCons (tVar 4) tNil))) (tVar 5)))) (tRet (tC (.bl false))) tNext)
          (tFor (iRng1 (tConsC (.int 4) tNil)) (gName 6) 
             (tIfS (tTest (tOp xLt (tCall (sp_law_cost K) [] E (tCons (tVar 3) (tCons (tCall (sp_law_side K) [] E (tCons (tVar 1) (tCons (tLstRg (tRg1 (tCB1 (xLen K) (tVar 3)))) (tCons (tVar 4) tNil)))) tNil))) (tVar 5))) (tRet (tC (.bl false))) tNext))))) : TS) { nx := fun σ H' => Box H' a l ∧ ∃ x2 x3 x4 x5 x6, σ = [some (.ref p), some (.ref a), x2, x3, x4, x5, x6], rt := Q } σ H) E := fun n H2' n1 n40 B2' => by
          refine ⟨a, l, n, rfl, rfl, n1, n40, B2', fun f ls H3 hf ef gl lm B3 k3 => ?_⟩
          have ff := B2'.fresh hf
          have gl1 := gl.pos
          have gl4 := gl.le
          have pos : ∀ x ∈ ls, 0 ≤ x := fun x hx => by have := gl.all x hx; omega
          obtain ⟨m, em, m2, m5⟩ : ∃ m : Int, (if decide ((((ls.map V.int).length : Nat) : Int) < 25) = true then (5 : Int) else 2) = m ∧ 2 ≤ m ∧ m ≤ 5 := by
            split
            · exact ⟨5, rfl, by decide, by decide⟩
            · exact ⟨2, rfl, by decide, by decide⟩
          have wtake : ∀ (C : V → Hp → Prop), (∀ r H4, 0 ≤ r → r < m → Box H4 a l → But [a, l] H3 H4 → C (.int r) H4) → tCall (sp_law_take K) [] E (tCons (tVar 1) (tCons (tIf (tTest (tOpC xLt (tCB1 (xLen K) (tVar 3)) (.int 25))) (tC (.int 5)) (tC (.int 2))) tNil)) [some (.ref p), some (.ref a), some (.int (0 + (i : Int))), some (.ref f), x4, x5, x6] H3 C := fun C hC => by
            refine ⟨_, rfl, _, rfl, lenL ef rfl ⟨_, _, rfl, rfl, _, rfl, ?_⟩⟩
            cases hd : decide ((((ls.map V.int).length : Nat) : Int) < 25) with
            | true =>
              rw [hd] at em
              have em : (5 : Int) = m := em
              subst em
              exact ⟨a, l, _, rfl, rfl, by decide, by decide, B3, hC⟩
            | false =>
              rw [hd] at em
              have em : (2 : Int) = m := em
              subst em
              exact ⟨a, l, _, rfl, rfl, by decide, by decide, B3, hC⟩
          refine wtake _ fun r H4 r0 r1 B4 k4 => ⟨_, _, rfl, rfl, ?_⟩
          obtain ⟨w, ew, hw2, hw6⟩ : ∃ w : Nat, (2 + r : Int) = (w : Int) ∧ 2 ≤ w ∧ w ≤ 6 := ⟨(2 + r).toNat, by omega, by omega, by omega⟩
          dsimp only
          rw [ew]
          have ef4 := k4 _ _ ef ff
          refine ⟨_, rfl, _, rfl, f, ls, w, rfl, ef4, gl, rfl, hw2, hw6, fun H5 cl el N EO s5 => ?_⟩
          have ef5 := s5 _ _ ef4
          have B5 := B4.same s5
          have np := nopt_all N gl1
          -- cheapest moves no more
          obtain ⟨rn, fit⟩ := plOf_ok EO 42 0 ((ls.length : Nat) : Int) (Int.le_refl _) (by omega) (Int.le_refl _) (by omega)
          have pc := plOf_cost N EO 42 0 ((ls.length : Nat) : Int) (Int.le_refl _) (by omega) (Int.le_refl _) (by omega)
          have ol := plan_le hw2 pos fit (by rw [rn])
          rw [pc] at ol
          have co := cheapL_opt (ls := ls) (w := w) hw2
          refine ⟨_, rfl, rfl, _, rfl, ?_⟩
          refine ⟨_, rfl, _, rfl, f, ls, w, rfl, ef5, gl, rfl, hw2, hw6, fun t v H6 ht et hv s6 => ?_⟩
          refine ixT ⟨t, rfl, et⟩ (j := 0) rfl rfl ?_
          refine ⟨_, rfl, _, _, rfl, rfl, _, rfl, ?_⟩
          rw [decide_eq_false (show ¬ cOf cl 0 ((ls.length : Nat) : Int) < (cheapL ls w).1 by omega)]
          have ef6 := s6 _ _ ef5
          refine ⟨_, rfl, _, rfl, _, rfl, a, l, f, ls, w, rfl, rfl, ef6, ff, gl, rfl, hw2, hw6, B5.same s6, fun H7 B7 k7 => ⟨_, rfl, ?_⟩⟩
          have ef7 := k7 _ _ ef6 ff
          -- drawn plans of neighbours
          have last : ∀ H8, Box H8 a l → H8 f = some (.lst (ls.map V.int)) → (tFor (iRng1 (tConsC (.int 4) tNil)) (gName 6) 
             (tIfS (tTest (tOp xLt (tCall (sp_law_cost K) [] E (tCons (tVar 3) (tCons (tCall (sp_law_side K) [] E (tCons (tVar 1) (tCons (tLstRg (tRg1 (tCB1 (xLen K) (tVar 3)))) (tCons (tVar 4) tNil)))) tNil))) (tVar 5))) (tRet (tC (.bl false))) tNext) : TS) { nx := fun σ H' => Box H' a l ∧ ∃ x2 x3 x4 x5 x6, σ = [some (.ref p), some (.ref a), x2, x3, x4, x5, x6], rt := Q } [some (.ref p), some (.ref a), some (.int (0 + (i : Int))), some (.ref f), some (.int (w : Int)), some (.int (cOf cl 0 ((ls.length : Nat) : Int))), x6] H8 := fun H8 B8 ef8 => by
            refine ⟨_, rfl, by decide, by decide, ?_⟩
            refine for_range (lo := 0) (n := (4 : Int).toNat) (fun j σ H' => Box H' a l ∧ H' f = some (.lst (ls.map V.int)) ∧ ∃ x6, σ = [some (.ref p), some (.ref a), some (.int (0 + (i : Int))), some (.ref f), some (.int (w : Int)), some (.int (cOf cl 0 ((ls.length : Nat) : Int))), x6]) ⟨B8, ef8, _, rfl⟩ ?_ ?_
            · rintro j σ H11 hj ⟨B11, ef11, x6, rfl⟩
              refine ⟨_, rfl, _, rfl, _, rfl, lenL ef11 rfl ⟨_, rfl, RgOk.of_le (by decide) (by rw [List.length_map]; omega) (by decide) (by omega), fun q2 hq2 => ?_⟩⟩
              have erg : rgV 0 (((ls.map V.int).length : Nat) : Int) = (rng 0 ls.length).map V.int := by
                unfold rgV rng
                rw [List.length_map, List.map_map]
                rfl
              rw [erg]
              have s12 : Same H11 (upd H11 q2 (.lst ((rng 0 ls.length).map V.int))) := Rs.Same.new hq2
              have eq2 : upd H11 q2 (.lst ((rng 0 ls.length).map V.int)) q2 = some _ := upd_same
              generalize upd H11 q2 (.lst ((rng 0 ls.length).map V.int)) = H12 at s12 eq2 ⊢
              have rl := rng_len ls.length
              refine ⟨_, rfl, a, l, q2, rng 0 ls.length, w, rfl, rfl, eq2, rfl, hw2, hw6, by omega, by omega, B11.same s12, fun v pl H13 hv fit2 pm2 B13 k13 => ?_⟩
              have ef13 := k13 _ _ (s12 _ _ ef11) ff
              have prl := congrArg List.length pm2
              rw [rl] at prl
              have deep := Pl.deep pl fit2
              have slim := Pl.slim_fits (by omega) pl fit2
              refine ⟨f, ls, pl, rfl, ef13, hv, by omega, by omega, slim, by omega, fun r hr => ?_, fun H14 s14 => ?_⟩
              · rw [pm2] at hr
                have := rng_in hr
                constructor <;> omega
              · have := np.min (pl.sub fun r => ls.getD r.toNat 0) (by rw [Pl.sub_fits, fit2]) (by rw [Pl.sub_runs, pm2, rng_get])
                rw [Pl.sub_wc] at this
                refine ⟨_, rfl, _, _, rfl, rfl, _, rfl, ?_⟩
                rw [decide_eq_false (show ¬ pl.cost ls < cOf cl 0 ((ls.length : Nat) : Int) by omega)]
                exact ⟨B13.same s14, s14 _ _ ef13, _, rfl⟩
            · rintro σ H11 ⟨B11, _, x6, rfl⟩
              exact ⟨B11, _, _, _, _, _, rfl⟩
          -- turned about
          refine ⟨_, rfl, lenL ef7 rfl ⟨_, _, rfl, rfl, _, rfl, ?_⟩⟩
          by_cases c : (((ls.map V.int).length : Nat) : Int) < 17
          · rw [decide_eq_true c]
            refine ⟨_, rfl, f, _, rfl, SqL.of ef7, fun q hq => ?_⟩
            rw [← List.map_reverse]
            have s8 : Same H7 (upd H7 q (.lst (ls.reverse.map V.int))) := Rs.Same.new hq
            have eq8 : upd H7 q (.lst (ls.reverse.map V.int)) q = some _ := upd_same
            generalize upd H7 q (.lst (ls.reverse.map V.int)) = H8 at s8 eq8 ⊢
            refine ⟨_, rfl, q, ls.reverse, w, rfl, eq8, gl.rev, rfl, hw2, hw6, fun H9 cl2 el2 N2 _ s9 => ?_⟩
            have u := (nopt_all N2 (by rw [List.length_reverse]; exact gl1)).uniq np.rev
            rw [u]
            refine ⟨_, rfl, rfl, _, rfl, ?_⟩
            rw [decide_eq_true rfl]
            have s79 := s8.trans s9
            exact last H9 (B7.same s79) (s79 _ _ ef7)
          · rw [decide_eq_false c]
            exact last H7 B7 ef7
        refine ⟨_, rfl, _, rfl, rfl, _, rfl, ?_⟩
        by_cases c0 : i = 0
        · rw [decide_eq_true (by rw [c0]; rfl : V.int (0 + (i : Int)) = V.int 0)]
          refine ⟨szle (by show 4 ≤ 100000; decide), fun q hq => ?_⟩
          have qfr := B2.fresh hq
          refine ⟨_, rfl, a, l, _, rfl, rfl, by decide, by decide, B2.same (Rs.Same.new hq), fun g H3 g0 g1 B3 k3 => ?_⟩
          have eq3 := k3 _ _ upd_same qfr
          rcases (by omega : g = 0 ∨ g = 1 ∨ g = 2 ∨ g = 3) with e | e | e | e
          · subst e
            exact ixL eq3 (j := 0) rfl rfl (rest0 16 H3 (by decide) (by decide) B3)
          · subst e
            exact ixL eq3 (j := 1) rfl rfl (rest0 24 H3 (by decide) (by decide) B3)
          · subst e
            exact ixL eq3 (j := 2) rfl rfl (rest0 24 H3 (by decide) (by decide) B3)
          · subst e
            exact ixL eq3 (j := 3) rfl rfl (rest0 40 H3 (by decide) (by decide) B3)
        · rw [decide_eq_false (fun z => by injection z with z; omega : ¬ V.int (0 + (i : Int)) = V.int 0)]
          exact rest0 12 H2 (by decide) (by decide) B2
      · rintro σ H3 _
        exact k H3
end Rs

/-! the head: facts by names, told over the objects that the module's names reach -/
namespace Hx
open PySem PySem.Spec PyProof.Rows L2
def obj1 (g : Addr → Option Obj) (v : Value) : List Addr := match v with
  | .ref b => (match g b with
    | some ⟨_, _, .func fd, _⟩ => b :: (He.refV fd.code ++ He.refV fd.defaults)
    | _ => [b])
  | _ => []
def obj2 (g : Addr → Option Obj) (v : Value) : List Addr := match v with
  | .ref b => (match g b with
    | some ⟨_, _, .func fd, _⟩ => b :: (He.refV fd.code ++ He.refV fd.defaults)
    | some ⟨_, _, .cls cd, _⟩ => b :: cd.ns :: (match g cd.ns with
      | some ⟨_, _, .dict es _, _⟩ => es.toList.flatMap fun e => obj1 g e.val
      | _ => [])
    | _ => [b])
  | _ => []
def asX (g : Addr → Option Obj) : List Addr := mainGlobals :: (match g mainGlobals with
  | some ⟨_, _, .dict es _, _⟩ => es.toList.flatMap fun e => obj2 g e.val
  | _ => [])
abbrev Fs : Type := List (PySem.W.Frag → Bool)
def obsM (fs : Fs) (fn : List He.DefD) (K : PySem.W.Frag) : He.AlD := ((fs.all fun f => f K) && fn.all fun d => d.ok K, fn.map fun d => He.fnW K d.at_)
def SaysM (fs : Fs) (fn : List He.DefD) (K : PySem.W.Frag) : Prop := obsM fs fn K = He.valD fn
def obsMG (fs : Fs) (fn : List He.DefD) (g : Addr → Option Obj) : He.AlD := obsM fs fn (He.frG g (asX g))
def hookM (fs : Fs) (fn : List He.DefD) : PySem.W.Hook where
  α := He.AlD
  obs := fun s => obsMG fs fn s.heap.get?
  val := fun _ => He.valD fn
  says := fun _ h => ∃ K : PySem.W.Frag, K.In h ∧ SaysM fs fn K
  of := fun _ _ e => ⟨_, He.frG_in, e⟩
  keeps := fun _ _ _ ⟨K, hK, c⟩ k => ⟨K, PySem.W.Frag.In.keeps hK k, c⟩
theorem obsMG_eq {fs : Fs} {fn : List He.DefD} {g : Addr → Option Obj} {s : Shared} (h : ∀ a, g a = s.heap.get? a) : obsMG fs fn g = (hookM fs fn).obs s := by
  have e : g = s.heap.get? := funext h
  rw [e] <;> rfl
section
variable {fs : Fs} {fn : List He.DefD} {K : PySem.W.Frag}
theorem SaysM.fact (c : SaysM fs fn K) (i : Nat) {f : PySem.W.Frag → Bool} (h : fs[i]? = some f := by rfl) : f K = true := by
  have c1 := (He.ba (show ((fs.all fun f => f K) && fn.all fun d => d.ok K) = true from congrArg (fun z : He.AlD => z.1) c)).1
  exact List.all_eq_true.mp c1 f (List.mem_of_getElem? h)
theorem SaysM.def_ (c : SaysM fs fn K) (i : Nat) {d : He.DefD} (h : fn[i]? = some d := by rfl) : ∃ fd, FunD K d.name d.qual d.params d.body d.scope (d.dvs K) (d.kws K) (He.fAd K d.at_) fd := by
  have c2 := (He.ba (show ((fs.all fun f => f K) && fn.all fun d => d.ok K) = true from congrArg (fun z : He.AlD => z.1) c)).2
  have e : fn.map (fun d => He.fnW K d.at_) = fn.map He.DefD.val := congrArg (fun z : He.AlD => z.2) c
  have e2 : (fn.map fun d => He.fnW K d.at_)[i]? = (fn.map He.DefD.val)[i]? := by rw [e]
  rw [List.getElem?_map, List.getElem?_map, h] at e2
  exact He.DefD.funD (Option.some.inj e2) (List.all_eq_true.mp c2 d (List.mem_of_getElem? h))
end
end Hx

namespace Lw
open PySem PySem.Spec PyProof.Rows L2 Rs
/-! ### the text by places -/
def top (i : Nat) : Stmt := PySem.Challenge.pw_runsorts_k09_whole_neighbours.main.body.getD i (.Pass ⟨0, 0, 0, 0⟩)
abbrev s_law_begun : Stmt := top 23
def d_law_begun : He.DefD := ⟨("_law_begun", none), "_law_begun", "_law_begun", defArgs s_law_begun, defBody s_law_begun, defScope s_law_begun, [], []⟩
abbrev s_law_take : Stmt := top 24
def d_law_take : He.DefD := ⟨("_law_take", none), "_law_take", "_law_take", defArgs s_law_take, defBody s_law_take, defScope s_law_take, [], []⟩
abbrev s_law_lengths : Stmt := top 26
def d_law_lengths : He.DefD := ⟨("_law_lengths", none), "_law_lengths", "_law_lengths", defArgs s_law_lengths, defBody s_law_lengths, defScope s_law_lengths, [], []⟩
abbrev s_need_lengths : Stmt := top 10
def d_need_lengths : He.DefD := ⟨("need_lengths", none), "need_lengths", "need_lengths", defArgs s_need_lengths, defBody s_need_lengths, defScope s_need_lengths, [], []⟩
abbrev s_need_ways : Stmt := top 11
def d_need_ways : He.DefD := ⟨("need_ways", none), "need_ways", "need_ways", defArgs s_need_ways, defBody s_need_ways, defScope s_need_ways, [], []⟩
abbrev s_stretches : Stmt := top 15
def d_stretches : He.DefD := ⟨("stretches", none), "stretches", "stretches", defArgs s_stretches, defBody s_stretches, defScope s_stretches, [], []⟩
abbrev s_cuts_of : Stmt := top 16
def d_cuts_of : He.DefD := ⟨("cuts_of", none), "cuts_of", "cuts_of", defArgs s_cuts_of, defBody s_cuts_of, defScope s_cuts_of, [], []⟩
abbrev s_neighbours_of : Stmt := top 17
def d_neighbours_of : He.DefD := ⟨("neighbours_of", none), "neighbours_of", "neighbours_of", defArgs s_neighbours_of, defBody s_neighbours_of, defScope s_neighbours_of, [], []⟩
abbrev s_plan_of : Stmt := top 18
def d_plan_of : He.DefD := ⟨("plan_of", none), "plan_of", "plan_of", defArgs s_plan_of, defBody s_plan_of, defScope s_plan_of, [], []⟩
abbrev s_neighbours : Stmt := top 19
def d_neighbours : He.DefD := ⟨("neighbours", none), "neighbours", "neighbours", defArgs s_neighbours, defBody s_neighbours, defScope s_neighbours, [], []⟩
abbrev s_law_alike : Stmt := top 25
def d_law_alike : He.DefD := ⟨("_law_alike", none), "_law_alike", "_law_alike", defArgs s_law_alike, defBody s_law_alike, defScope s_law_alike, [], []⟩
abbrev s_law_in : Stmt := top 29
def d_law_in : He.DefD := ⟨("_law_in", none), "_law_in", "_law_in", defArgs s_law_in, defBody s_law_in, defScope s_law_in, [], []⟩
abbrev s_law_fits : Stmt := top 31
def d_law_fits : He.DefD := ⟨("_law_fits", none), "_law_fits", "_law_fits", defArgs s_law_fits, defBody s_law_fits, defScope s_law_fits, [], []⟩
abbrev s_law_cost : Stmt := top 30
def d_law_cost : He.DefD := ⟨("_law_cost", none), "_law_cost", "_law_cost", defArgs s_law_cost, defBody s_law_cost, defScope s_law_cost, [], []⟩
abbrev s_bound : Stmt := top 21
def d_bound : He.DefD := ⟨("bound", none), "bound", "bound", defArgs s_bound, defBody s_bound, defScope s_bound, [], []⟩
abbrev s_paper : Stmt := top 20
def d_paper : He.DefD := ⟨("paper", none), "paper", "paper", defArgs s_paper, defBody s_paper, defScope s_paper, [], []⟩
abbrev s_law_right : Stmt := top 33
def d_law_right : He.DefD := ⟨("_law_right", none), "_law_right", "_law_right", defArgs s_law_right, defBody s_law_right, defScope s_law_right, [], []⟩
abbrev s_law_fewest : Stmt := top 32
def d_law_fewest : He.DefD := ⟨("_law_fewest", none), "_law_fewest", "_law_fewest", defArgs s_law_fewest, defBody s_law_fewest, defScope s_law_fewest, [], []⟩
abbrev s_law_is_refused : Stmt := top 34
def d_law_is_refused : He.DefD := ⟨("_law_is_refused", none), "_law_is_refused", "_law_is_refused", defArgs s_law_is_refused, defBody s_law_is_refused, defScope s_law_is_refused, [], []⟩
abbrev s_how_many : Stmt := top 12
def d_how_many : He.DefD := ⟨("how_many", none), "how_many", "how_many", defArgs s_how_many, defBody s_how_many, defScope s_how_many, [], []⟩
abbrev s_least_runs : Stmt := top 13
def d_least_runs : He.DefD := ⟨("least_runs", none), "least_runs", "least_runs", defArgs s_least_runs, defBody s_least_runs, defScope s_least_runs, [], []⟩
abbrev s_cheapest : Stmt := top 14
def d_cheapest : He.DefD := ⟨("cheapest", none), "cheapest", "cheapest", defArgs s_cheapest, defBody s_cheapest, defScope s_cheapest, [], []⟩
abbrev s_law_side : Stmt := top 28
def d_law_side : He.DefD := ⟨("_law_side", none), "_law_side", "_law_side", defArgs s_law_side, defBody s_law_side, defScope s_law_side, [], []⟩
abbrev s_law : Stmt := top 35
def d_law : He.DefD := ⟨("law", none), "law", "law", defArgs s_law, defBody s_law, defScope s_law, [], []⟩
def fn : List He.DefD := [d_law_begun, d_law_take, d_law_lengths, d_need_lengths, d_need_ways, d_stretches, d_cuts_of, d_neighbours_of, d_plan_of, d_neighbours, d_law_alike, d_law_in, d_law_fits, d_law_cost, d_bound, d_paper, d_law_right, d_law_fewest, d_law_is_refused, d_how_many, d_least_runs, d_cheapest, d_law_side, d_law]
def fa : List He.Fa := [.free "list",
  .free "len",
  .free "int",
  .glo "_law_take",
  .free "range",
  .int "MOST_RUNS" 40,
  .int "MOST_LENGTH" 1000000,
  .int "LEAST_WAYS" 2,
  .int "MOST_WAYS" 6,
  .free "min",
  .glo "stretches",
  .glo "cuts_of",
  .free "sum",
  .glo "plan_of",
  .free "tuple",
  .glo "need_lengths",
  .glo "need_ways",
  .glo "neighbours_of",
  .free "isinstance",
  .free "bool",
  .free "str",
  .glo "_law_alike",
  .glo "_law_in",
  .glo "_law_fits",
  .glo "_law_cost",
  .free "dict",
  .free "sorted",
  .exc "BadPaper",
  .glo "BadPaper",
  .glo "neighbours",
  .glo "paper",
  .glo "bound",
  .glo "_law_fewest",
  .glo "how_many",
  .glo "least_runs",
  .glo "_law_begun",
  .glo "_law_lengths",
  .glo "_law_right",
  .glo "cheapest",
  .glo "_law_is_refused",
  .glo "_law_side",
  .glo "law",
  .exm "BadPaper" "BadPaper" true]
def fs : Hx.Fs := fa.map fun f K => f.ok K
structure Wd (K : PySem.W.Frag) (mg : Str → Option Value) : Prop where
  c : Hx.SaysM fs fn K
  X : ∃ h : Heap, K.In h ∧ h.Ns mainGlobals mg
section
variable {K : PySem.W.Frag} {mg : Str → Option Value}
theorem Wd.fact (W : Wd K mg) (i : Nat) {f : He.Fa} (h : fa[i]? = some f) : f.ok K = true := W.c.fact i (f := fun K => f.ok K) (by show (fa.map _)[i]? = _; rw [List.getElem?_map, h]; rfl)
theorem Wd.glo (W : Wd K mg) (i : Nat) {x : Str} (h : fa[i]? = some (.glo x)) : mg x = some (.ref (He.ga K x)) := let ⟨_, a, b⟩ := W.X; He.glo_ok a b (W.fact i h)
theorem Wd.free (W : Wd K mg) (i : Nat) {x : Str} (h : fa[i]? = some (.free x)) : mg x = none := let ⟨_, a, b⟩ := W.X; He.free_ok a b (W.fact i h)
theorem Wd.int (W : Wd K mg) (i : Nat) {x : Str} {z : Int} (h : fa[i]? = some (.int x z)) : ∃ t, mg x = some (.int z t) := let ⟨_, a, b⟩ := W.X; He.int_ok a b (W.fact i h)
theorem Wd.str (W : Wd K mg) (i : Nat) {x z : Str} (h : fa[i]? = some (.str x z)) : ∃ t, mg x = some (.str z t) := let ⟨_, a, b⟩ := W.X; He.str_ok a b (W.fact i h)
theorem Wd.cls (W : Wd K mg) (i : Nat) {x : Str} (h : fa[i]? = some (.cls x)) : Cls K (He.ga K x) := He.cls_ok (W.fact i h)
theorem Wd.noat (W : Wd K mg) (i : Nat) {x f : Str} (h : fa[i]? = some (.noat x f)) : NoAttr K (He.ga K x) f := He.noat_ok (W.fact i h)
theorem Wd.meth (W : Wd K mg) (i : Nat) {x m : Str} (h : fa[i]? = some (.meth x m)) : Meth K (He.ga K x) m (He.ma K (He.ga K x) m) := He.meth_ok (W.fact i h)
theorem Wd.exc (W : Wd K mg) (i : Nat) {x : Str} (h : fa[i]? = some (.exc x)) : PySem.W.excIn K (He.ga K x) He.veBase "ValueError.__new__" = true ∧ PySem.W.keepIn K (.ref (He.ga K x)) = true ∧ PySem.W.subIn K (.ref (He.ga K x)) (.type "BaseException") = some true ∧ PySem.W.typeIn K (.ref (He.ga K x)) = some (.type "type") := He.exc_ok (W.fact i h)
theorem Wd.exm (W : Wd K mg) (i : Nat) {x y : Str} {b : Bool} (h : fa[i]? = some (.exm x y b)) : PySem.W.exmOne K (.ref (He.ga K x)) (.ref (He.ga K y)) = some b := He.exm_ok (W.fact i h)
theorem Wd.mkr (W : Wd K mg) (i : Nat) {x : Str} (h : fa[i]? = some (.mkr x)) : Mk K (He.ga K x) (He.ma K (He.ga K x) "__init__") := He.mkr_ok (W.fact i h)
end
/-! ### each def keeps its promise -/
section
variable {P : Program} {w : World} {K : PySem.W.Frag} {mg : Str → Option Value} {base : Heap}
theorem sc_law_begun : FnScope N_law_begun P_law_begun (defScope s_law_begun) := ⟨rfl, rfl, rfl, by decide +kernel, rfl, by decide +kernel, by decide +kernel⟩
theorem ok_law_begun (W : Wd K mg) : Can P w K mg base 1 ("_law_begun", none) P_law_begun (sp_law_begun K) := by
  obtain ⟨fd, F⟩ := W.c.def_ 0 (d := d_law_begun) rfl
  refine can_of F (F.bindsN fun _ _ _ _ _ _ us hl => match us, hl with | [_], _ => rfl) sc_law_begun (fun vs H Q E h => by unfold sp_law_begun at h; match vs, h with | [_], _ => rfl) (t_law_begun K) (fun cdv A outer s H E hr => ?_) (pure_law_begun)
  have nd := sc_law_begun.nd
  exact (pss_cons (ps_set (i := 1) nd rfl (Or.inl rfl) pe_int)
    (pss_cons (ps_for (passes_of rfl) rfl (pi_list (pv 0)) (pg_name (i := 2) nd rfl (Or.inl rfl)) (pss_one (ps_set (i := 1) nd rfl (Or.inl rfl) (pe_opC op_mod (pe_opC op_add (pe_op op_add (pe_opC op_mul (pv 1) pe_int) (pe_opC op_mul (pv 2) pe_int)) pe_int) pe_int))))
    (pss_one (ps_ret (pe_lst (pa_cons (pe_callTy1 call_list_of (by rfl) (W.free 0 rfl) (by decide +kernel) (pv 0)) (pa_cons (pe_op op_mul (pv 1) (pe_callTy1 call_int1 (by rfl) (W.free 2 rfl) (by decide +kernel) (pe_cmpRC op_gt (pe_callB1 call_len_seq (by rfl) (W.free 1 rfl) (by decide +kernel) (pv 0)) pe_int (nomark _)))) pa_nil)))))))
theorem sc_law_take : FnScope N_law_take P_law_take (defScope s_law_take) := ⟨rfl, rfl, rfl, by decide +kernel, rfl, by decide +kernel, by decide +kernel⟩
theorem ok_law_take (W : Wd K mg) : Can P w K mg base 1 ("_law_take", none) P_law_take (sp_law_take K) := by
  obtain ⟨fd, F⟩ := W.c.def_ 1 (d := d_law_take) rfl
  refine can_of F (F.bindsN fun _ _ _ _ _ _ us hl => match us, hl with | [_, _], _ => rfl) sc_law_take (fun vs H Q E h => by unfold sp_law_take at h; match vs, h with | [_, _], _ => rfl) (t_law_take K) (fun cdv A outer s H E hr => ?_) (pure_law_take)
  have nd := sc_law_take.nd
  exact (pss_cons (ps_if (pt_cmpR (opx_eqE (hu_of hr)) (pe_ixC ix_list (pv 0) pe_int (fun _ _ => rfl)) (pe_lst pa_nil) (nomark _)) (pss_cons (ps_asg (pe_opC op_mod (pe_opC op_mul (pe_ixC ix_list (pv 0) pe_int (fun _ _ => rfl)) pe_int) pe_int) (pg_subC (pv 0) pe_int set_list))
    (pss_one (ps_ret (pe_op op_mod (pe_opC op_fdivW (pe_ixC ix_list (pv 0) pe_int (fun _ _ => rfl)) pe_int) (pv 1))))) pss_nil)
    (pss_cons (ps_set (i := 2) nd rfl (Or.inl rfl) (pe_ixC ix_list (pe_ixC ix_list (pv 0) pe_int (fun _ _ => rfl)) pe_int (fun _ _ => rfl)))
    (pss_cons (ps_asg (pe_op op_fdivW (pv 2) (pv 1)) (pg_subC (pe_ixC ix_list (pv 0) pe_int (fun _ _ => rfl)) pe_int set_list))
    (pss_cons (ps_if (PW.pt (pw_or (pt_cmpRC op_eq (pe_ixC ix_list (pe_ixC ix_list (pv 0) pe_int (fun _ _ => rfl)) pe_int (fun _ _ => rfl)) pe_int (nomark _)) (pw_or1 (pt_cmpRC op_eq (pe_ixC ix_list (pe_ixC ix_list (pv 0) pe_int (fun _ _ => rfl)) pe_int (fun _ _ => rfl)) (pe_unN pe_int) (nomark _))))) (pss_one (ps_expr (pe_bm PySem.F.plainAttrs_list PySem.F.slot_list_pop PySem.F.type_list_pop mt_popAt (pe_ixC ix_list (pv 0) pe_int (fun _ _ => rfl)) (pa_consC pe_int pa_nil)))) pss_nil)
    (pss_one (ps_ret (pe_op op_mod (pv 2) (pv 1))))))))
theorem sc_law_lengths : FnScope N_law_lengths P_law_lengths (defScope s_law_lengths) := ⟨rfl, rfl, rfl, by decide +kernel, rfl, by decide +kernel, by decide +kernel⟩
theorem ok_law_lengths (W : Wd K mg) : Can P w K mg base 2 ("_law_lengths", none) P_law_lengths (sp_law_lengths K) := by
  obtain ⟨fd, F⟩ := W.c.def_ 2 (d := d_law_lengths) rfl
  refine can_of F (F.bindsN fun _ _ _ _ _ _ us hl => match us, hl with | [_, _], _ => rfl) sc_law_lengths (fun vs H Q E h => by unfold sp_law_lengths at h; match vs, h with | [_, _], _ => rfl) (t_law_lengths K) (fun cdv A outer s H E hr => ?_) (pure_law_lengths)
  have nd := sc_law_lengths.nd
  exact (pss_cons (ps_set (i := 2) nd rfl (Or.inl rfl) (pe_lst pa_nil))
    (pss_cons (ps_for (passes_of rfl) rfl (pi_range1 (by rfl) (W.free 4 rfl) (pa_cons (pe_opD op_add pe_int (pe_callC (ok_law_take W) (hr.mono (by decide)) rfl (W.glo 3 rfl) (passes_call (takes_of rfl rfl rfl rfl) (fun _ _ _ _ h => h)) (pa_cons (pv 0) (pa_cons (pv 1) pa_nil)))) pa_nil)) (pg_name (i := 3) nd rfl (Or.inl rfl)) (pss_cons (ps_set (i := 4) nd rfl (Or.inl rfl) (pe_lst (pa_cons (pe_opD op_add pe_int (pe_callC (ok_law_take W) (hr.mono (by decide)) rfl (W.glo 3 rfl) (passes_call (takes_of rfl rfl rfl rfl) (fun _ _ _ _ h => h)) (pa_cons (pv 0) (pa_consC pe_int pa_nil)))) (pa_cons (pe_opD op_add pe_int (pe_callC (ok_law_take W) (hr.mono (by decide)) rfl (W.glo 3 rfl) (passes_call (takes_of rfl rfl rfl rfl) (fun _ _ _ _ h => h)) (pa_cons (pv 0) (pa_consC pe_int pa_nil)))) (pa_cons (pe_opC op_add (pv 3) pe_int) (pa_cons (pe_opD op_add pe_int (pe_callC (ok_law_take W) (hr.mono (by decide)) rfl (W.glo 3 rfl) (passes_call (takes_of rfl rfl rfl rfl) (fun _ _ _ _ h => h)) (pa_cons (pv 0) (pa_cons (pe_opC op_pow pe_int pe_int) pa_nil)))) (pa_cons (pe_opC op_pow pe_int pe_int) pa_nil)))))))
    (pss_one (ps_expr (pe_bm PySem.F.plainAttrs_list PySem.F.slot_list_append PySem.F.type_list_append mt_append (pv 2) (pa_cons (pe_ix ix_list (pv 4) (pe_ix ix_list (pe_lst (pa_consC pe_int (pa_consC pe_int (pa_consC pe_int (pa_consC pe_int (pa_consC pe_int (pa_consC pe_int pa_nil))))))) (pe_callC (ok_law_take W) (hr.mono (by decide)) rfl (W.glo 3 rfl) (passes_call (takes_of rfl rfl rfl rfl) (fun _ _ _ _ h => h)) (pa_cons (pv 0) (pa_consC pe_int pa_nil))) (fun _ _ => rfl)) (fun _ _ => rfl)) pa_nil))))))
    (pss_one (ps_ret (pv 2)))))
theorem sc_need_lengths : FnScope N_need_lengths P_need_lengths (defScope s_need_lengths) := ⟨rfl, rfl, rfl, by decide +kernel, rfl, by decide +kernel, by decide +kernel⟩
theorem ok_need_lengths (W : Wd K mg) : Can P w K mg base 1 ("need_lengths", none) P_need_lengths (sp_need_lengths K) := by
  obtain ⟨fd, F⟩ := W.c.def_ 3 (d := d_need_lengths) rfl
  refine can_of F (F.bindsN fun _ _ _ _ _ _ us hl => match us, hl with | [_], _ => rfl) sc_need_lengths (fun vs H Q E h => by unfold sp_need_lengths at h; match vs, h with | [_], _ => rfl) (t_need_lengths K) (fun cdv A outer s H E hr => ?_) (pure_need_lengths)
  have nd := sc_need_lengths.nd
  exact (pss_cons (ps_if (pt_not (pt_chain op_le op_le pe_int (pe_callB1 call_len_seq (by rfl) (W.free 1 rfl) (by decide +kernel) (pv 0)) (pe_gint rfl (W.int 5 rfl)))) (pss_one ps_never) pss_nil)
    (pss_one (ps_if (pt_cmpR (opx_neE (hu_of hr)) (pe_lc (own := [("length", 1)]) rfl nd (pi_list (pv 0)) (blkOk_by (own := [("length", 1)]) (N := N_need_lengths) (sc := defScope s_need_lengths) (by decide +kernel)) (fun _ _ _ _ _ => (pg_name (i := 1) nd rfl (Or.inl rfl))) (fun _ _ _ _ _ => (pts_one (pt_not (pt_chain op_le op_le pe_int (pv 1) (pe_gint rfl (W.int 6 rfl)))))) (fun _ _ _ _ _ => (pv 1))) (pe_lst pa_nil) (nomark _)) (pss_one ps_never) pss_nil)))
theorem sc_need_ways : FnScope N_need_ways P_need_ways (defScope s_need_ways) := ⟨rfl, rfl, rfl, by decide +kernel, rfl, by decide +kernel, by decide +kernel⟩
theorem ok_need_ways (W : Wd K mg) : Can P w K mg base 1 ("need_ways", none) P_need_ways (sp_need_ways K) := by
  obtain ⟨fd, F⟩ := W.c.def_ 4 (d := d_need_ways) rfl
  refine can_of F (F.bindsN fun _ _ _ _ _ _ us hl => match us, hl with | [_], _ => rfl) sc_need_ways (fun vs H Q E h => by unfold sp_need_ways at h; match vs, h with | [_], _ => rfl) (t_need_ways K) (fun cdv A outer s H E hr => ?_) (pure_need_ways)
  have nd := sc_need_ways.nd
  exact (pss_one (ps_if (pt_not (pt_chain op_le op_le (pe_gint rfl (W.int 7 rfl)) (pv 0) (pe_gint rfl (W.int 8 rfl)))) (pss_one ps_never) pss_nil))
theorem sc_stretches : FnScope N_stretches P_stretches (defScope s_stretches) := ⟨rfl, rfl, rfl, by decide +kernel, rfl, by decide +kernel, by decide +kernel⟩
theorem ok_stretches (W : Wd K mg) : Can P w K mg base 1 ("stretches", none) P_stretches (sp_stretches K) := by
  obtain ⟨fd, F⟩ := W.c.def_ 5 (d := d_stretches) rfl
  refine can_of F (F.bindsN fun _ _ _ _ _ _ us hl => match us, hl with | [_], _ => rfl) sc_stretches (fun vs H Q E h => by unfold sp_stretches at h; match vs, h with | [_], _ => rfl) (t_stretches K) (fun cdv A outer s H E hr => ?_) (pure_stretches)
  have nd := sc_stretches.nd
  exact (pss_cons (ps_set (i := 1) nd rfl (Or.inl rfl) (pe_lst pa_nil))
    (pss_cons (ps_for (passes_of rfl) rfl (pi_range2 (by rfl) (W.free 4 rfl) (pa_consC pe_int (pa_cons (pe_opC op_add (pv 0) pe_int) pa_nil))) (pg_name (i := 2) nd rfl (Or.inr rfl)) (pss_one (ps_expr (pe_bm PySem.F.plainAttrs_list PySem.F.slot_list_extend PySem.F.type_list_extend mt_extend (pv 1) (pa_cons (pe_lc (own := [("begin", 3)]) rfl nd (pi_range1 (by rfl) (W.free 4 rfl) (pa_cons (pe_opC op_add (pe_op op_sub (pv 0) (pv 2)) pe_int) pa_nil)) (blkOk_by (own := [("begin", 3)]) (N := N_stretches) (sc := defScope s_stretches) (by decide +kernel)) (fun _ _ _ _ _ => (pg_name (i := 3) nd rfl (Or.inl rfl))) (fun _ _ _ _ _ => pts_nil) (fun _ _ _ _ _ => (pe_tup (pa_cons (pv 3) (pa_cons (pe_op op_add (pv 3) (pv 2)) pa_nil))))) pa_nil)))))
    (pss_one (ps_ret (pv 1)))))
theorem sc_cuts_of : FnScope N_cuts_of P_cuts_of (defScope s_cuts_of) := ⟨rfl, rfl, rfl, by decide +kernel, rfl, by decide +kernel, by decide +kernel⟩
theorem ok_cuts_of (W : Wd K mg) : Can P w K mg base 1 ("cuts_of", none) P_cuts_of (sp_cuts_of K) := by
  obtain ⟨fd, F⟩ := W.c.def_ 6 (d := d_cuts_of) rfl
  refine can_of F (F.bindsN fun _ _ _ _ _ _ us hl => match us, hl with | [_, _, _, _], _ => rfl) sc_cuts_of (fun vs H Q E h => by unfold sp_cuts_of at h; match vs, h with | [_, _, _, _], _ => rfl) (t_cuts_of K) (fun cdv A outer s H E hr => ?_) (pure_cuts_of)
  have nd := sc_cuts_of.nd
  exact (pss_cons (ps_set (i := 4) nd rfl (Or.inl rfl) (pe_disp (pps_cons (pv 1) (pe_tup (pa_consC pe_int (pa_cons (pe_lst pa_nil) pa_nil))) pps_nil) rfl rfl (by intro z; cases z) (by decide)))
    (pss_cons (ps_set (i := 5) nd rfl (Or.inl rfl) pe_non)
    (pss_cons (ps_for (passes_of rfl) rfl (pi_range1 (by rfl) (W.free 4 rfl) (pa_cons (pv 3) pa_nil)) (pg_name (i := 6) nd rfl (Or.inl rfl)) (pss_cons (ps_set (i := 7) nd rfl (Or.inl rfl) pe_dnewK)
    (pss_cons (ps_lock (ps_for (passes_of rfl) rfl (pi_keys (pv 4)) (pg_name (i := 8) nd rfl (Or.inl rfl)) (pss_one (ps_for (passes_of rfl) rfl (pi_range2 (by rfl) (W.free 4 rfl) (pa_cons (pe_opC op_add (pv 8) pe_int) (pa_cons (pe_opC op_add (pv 2) pe_int) pa_nil))) (pg_name (i := 9) nd rfl (Or.inl rfl)) (pss_one (ps_if (pt_cmpR op_lt (pe_op op_sub (pv 9) (pv 8)) (pe_op op_sub (pv 2) (pv 1)) (nomark _)) (pss_cons (ps_set (i := 10) nd rfl (Or.inl rfl) (pe_tup (pa_cons (pe_op op_add (pe_ixC ix_tup (pe_dget (hu_of hr) (pv 4) (pv 8) (fun _ _ => rfl)) pe_int (fun _ _ => rfl)) (pe_dget2 (hu_of hr) (pv 0) (pe_tup (pa_cons (pv 8) (pa_cons (pv 9) pa_nil))) pe_int ⟨rfl, rfl, rfl, rfl⟩)) (pa_cons (pe_op op_cat (pe_ixC ix_tup (pe_dget (hu_of hr) (pv 4) (pv 8) (fun _ _ => rfl)) pe_int (fun _ _ => rfl)) (pe_lst (pa_cons (pv 9) pa_nil))) pa_nil))))
    (pss_one (ps_dput (hu_of hr) (pv 7) (pv 9) (pe_callB (call_minCut (hu64 hr) rfl) (by rfl) (W.free 9 rfl) (by decide +kernel) (pa_cons (pv 10) (pa_cons (pe_dget2 (hu_of hr) (pv 7) (pv 9) (pv 10) ⟨rfl, rfl, rfl, rfl⟩) pa_nil))) rfl))) pss_nil))))))
    (pss_cons (ps_set (i := 4) nd rfl (Or.inl rfl) (pv 7))
    (pss_one (ps_if (PW.pt (pw_and (pt_cmp (pc_din (hu_of hr) (pv 2) (pv 4)) rfl) (pw_and1 (PW.pt (pw_or (pt_cmpRC op_isN1 (pv 5) pe_non (nomark _)) (pw_or1 (pt_cmpR (op_ltCut (hu64 hr)) (pe_dget (hu_of hr) (pv 4) (pv 2) (fun _ _ => rfl)) (pv 5) (nomark _)))))))) (pss_one (ps_set (i := 5) nd rfl (Or.inl rfl) (pe_dpop1 (pv 4) (pv 2) ⟨rfl, rfl, rfl, rfl⟩))) pss_nil))))))
    (pss_one (ps_ret (pv 5))))))
theorem sc_neighbours_of : FnScope N_neighbours_of P_neighbours_of (defScope s_neighbours_of) := ⟨rfl, rfl, rfl, by decide +kernel, rfl, by decide +kernel, by decide +kernel⟩
theorem ok_neighbours_of (W : Wd K mg) : Can P w K mg base 2 ("neighbours_of", none) P_neighbours_of (sp_neighbours_of K) := by
  obtain ⟨fd, F⟩ := W.c.def_ 7 (d := d_neighbours_of) rfl
  refine can_of F (F.bindsN fun _ _ _ _ _ _ us hl => match us, hl with | [_, _], _ => rfl) sc_neighbours_of (fun vs H Q E h => by unfold sp_neighbours_of at h; match vs, h with | [_, _], _ => rfl) (t_neighbours_of K) (fun cdv A outer s H E hr => ?_) (pure_neighbours_of)
  have nd := sc_neighbours_of.nd
  exact (pss_cons (ps_set (i := 2) nd rfl (Or.inl rfl) pe_dnewT)
    (pss_cons (ps_set (i := 3) nd rfl (Or.inl rfl) pe_dnewT)
    (pss_cons (ps_for (passes_of rfl) rfl (pi_list (pe_callC (ok_stretches W) (hr.mono (by decide)) rfl (W.glo 10 rfl) (passes_call (takes_of rfl rfl rfl rfl) (fun _ _ _ _ h => h)) (pa_cons (pe_callB1 call_len_seq (by rfl) (W.free 1 rfl) (by decide +kernel) (pv 0)) pa_nil))) (pg_tup rfl (pgs_cons (pg_name (i := 4) nd rfl (Or.inl rfl)) (pgs_cons (pg_name (i := 5) nd rfl (Or.inl rfl)) pgs_nil))) (pss_cons (ps_asg (pe_callC (ok_cuts_of W) (hr.mono (by decide)) rfl (W.glo 11 rfl) (passes_call (takes_of rfl rfl rfl rfl) (fun _ _ _ _ h => h)) (pa_cons (pv 2) (pa_cons (pv 4) (pa_cons (pv 5) (pa_cons (pv 1) pa_nil))))) (pg_tup rfl (pgs_cons (pg_name (i := 6) nd rfl (Or.inl rfl)) (pgs_cons (pg_name (i := 7) nd rfl (Or.inl rfl)) pgs_nil))))
    (pss_cons (ps_dput (hu_of hr) (pv 2) (pe_tup (pa_cons (pv 4) (pa_cons (pv 5) pa_nil))) (pe_op op_add (pv 6) (pe_callB1 (cr_sum rfl) (by rfl) (W.free 12 rfl) (by decide +kernel) (pe_slice sl_list (pv 0) (po_some (pv 4)) (po_some (pv 5))))) rfl)
    (pss_one (ps_dput (hu_of hr) (pv 3) (pe_tup (pa_cons (pv 4) (pa_cons (pv 5) pa_nil))) (pv 7) rfl)))))
    (pss_one (ps_ret (pe_tup (pa_cons (pv 2) (pa_cons (pv 3) pa_nil))))))))
theorem sc_plan_of : FnScope N_plan_of P_plan_of (defScope s_plan_of) := ⟨rfl, rfl, rfl, by decide +kernel, rfl, by decide +kernel, by decide +kernel⟩
theorem okr_plan_of (W : Wd K mg) : ∀ d, Can P w K mg base (0 + d) ("plan_of", none) P_plan_of (spr_plan_of K d) := by
  obtain ⟨fd, F⟩ := W.c.def_ 8 (d := d_plan_of) rfl
  refine can_rec (lev := 0) F (F.bindsN fun _ _ _ _ _ _ us hl => match us, hl with | [_, _, _], _ => rfl) sc_plan_of (len_plan_of K) (no_plan_of K) (t_plan_of K) (fun d ih cdv A outer s H E hr => ?_) (fun d => pure_plan_of d)
  have nd := sc_plan_of.nd
  exact (pss_cons (ps_if (pt_cmpRC op_eq (pe_op op_sub (pv 2) (pv 1)) pe_int (nomark _)) (pss_one (ps_ret (pv 1))) pss_nil)
    (pss_cons (ps_set (i := 3) nd rfl (Or.inl rfl) (pe_lst pa_nil))
    (pss_cons (ps_for (passes_of rfl) rfl (pi_list (pe_dget (hu_of hr) (pv 0) (pe_tup (pa_cons (pv 1) (pa_cons (pv 2) pa_nil))) (fun _ _ => rfl))) (pg_name (i := 4) nd rfl (Or.inl rfl)) (pss_cons (ps_expr (pe_bm PySem.F.plainAttrs_list PySem.F.slot_list_append PySem.F.type_list_append mt_append (pv 3) (pa_cons (pe_callC ih (hr.mono (by omega)) rfl (W.glo 13 rfl) (passes_call (takes_of rfl rfl rfl rfl) (fun _ _ _ _ h => h)) (pa_cons (pv 0) (pa_cons (pv 1) (pa_cons (pv 4) pa_nil)))) pa_nil)))
    (pss_one (ps_set (i := 1) nd rfl (Or.inl rfl) (pv 4)))))
    (pss_one (ps_ret (pe_callTy1 call_tuple_of (by rfl) (W.free 14 rfl) (by decide +kernel) (pv 3)))))))
theorem ok_plan_of (W : Wd K mg) : Can P w K mg base 42 ("plan_of", none) P_plan_of (sp_plan_of K) := okr_plan_of W 42
theorem sc_neighbours : FnScope N_neighbours P_neighbours (defScope s_neighbours) := ⟨rfl, rfl, rfl, by decide +kernel, rfl, by decide +kernel, by decide +kernel⟩
theorem ok_neighbours (W : Wd K mg) : Can P w K mg base 43 ("neighbours", none) P_neighbours (sp_neighbours K) := by
  obtain ⟨fd, F⟩ := W.c.def_ 9 (d := d_neighbours) rfl
  refine can_of F (F.bindsN fun _ _ _ _ _ _ us hl => match us, hl with | [_, _], _ => rfl) sc_neighbours (fun vs H Q E h => by unfold sp_neighbours at h; match vs, h with | [_, _], _ => rfl) (t_neighbours K) (fun cdv A outer s H E hr => ?_) (pure_neighbours)
  have nd := sc_neighbours.nd
  exact (pss_cons (ps_expr (pe_callC (ok_need_lengths W) (hr.mono (by decide)) rfl (W.glo 15 rfl) (passes_call (takes_of rfl rfl rfl rfl) (fun _ _ _ _ h => h)) (pa_cons (pv 0) pa_nil)))
    (pss_cons (ps_expr (pe_callC (ok_need_ways W) (hr.mono (by decide)) rfl (W.glo 16 rfl) (passes_call (takes_of rfl rfl rfl rfl) (fun _ _ _ _ h => h)) (pa_cons (pv 1) pa_nil)))
    (pss_cons (ps_asg (pe_callC (ok_neighbours_of W) (hr.mono (by decide)) rfl (W.glo 17 rfl) (passes_call (takes_of rfl rfl rfl rfl) (fun _ _ _ _ h => h)) (pa_cons (pe_callTy1 call_list_of (by rfl) (W.free 0 rfl) (by decide +kernel) (pv 0)) (pa_cons (pv 1) pa_nil))) (pg_tup rfl (pgs_cons (pg_name (i := 2) nd rfl (Or.inl rfl)) (pgs_cons (pg_name (i := 3) nd rfl (Or.inl rfl)) pgs_nil))))
    (pss_one (ps_ret (pe_tup (pa_cons (pe_dget2 (hu_of hr) (pv 2) (pe_tup (pa_consC pe_int (pa_cons (pe_callB1 call_len_seq (by rfl) (W.free 1 rfl) (by decide +kernel) (pv 0)) pa_nil))) pe_int ⟨rfl, rfl, rfl, rfl⟩) (pa_cons (pe_callC (ok_plan_of W) (hr.mono (by decide)) rfl (W.glo 13 rfl) (passes_call (takes_of rfl rfl rfl rfl) (fun _ _ _ _ h => h)) (pa_cons (pv 3) (pa_consC pe_int (pa_cons (pe_callB1 call_len_seq (by rfl) (W.free 1 rfl) (by decide +kernel) (pv 0)) pa_nil)))) pa_nil))))))))
theorem sc_law_alike : FnScope N_law_alike P_law_alike (defScope s_law_alike) := ⟨rfl, rfl, rfl, by decide +kernel, rfl, by decide +kernel, by decide +kernel⟩
theorem okr_law_alike (W : Wd K mg) : ∀ d, Can P w K mg base (0 + d) ("_law_alike", none) P_law_alike (spr_law_alike K d) := by
  obtain ⟨fd, F⟩ := W.c.def_ 10 (d := d_law_alike) rfl
  refine can_rec (lev := 0) F (F.bindsN fun _ _ _ _ _ _ us hl => match us, hl with | [_, _], _ => rfl) sc_law_alike (len_law_alike K) (no_law_alike K) (t_law_alike K) (fun d ih cdv A outer s H E hr => ?_) (fun d => pure_law_alike d)
  have nd := sc_law_alike.nd
  exact (pss_cons (ps_if (pt_cmpRC op_isN1 (pv 1) pe_non (nomark _)) (pss_one (ps_ret (pe_cmpRC op_isN1 (pv 0) pe_non (nomark _)))) pss_nil)
    (pss_cons (ps_if (pt_val (pe_isi (by rfl) (W.free 18 rfl) (pv 1) (pe_bltn (v := .ty "bool") rfl (W.free 19 rfl) (by decide +kernel) rfl))) (pss_one (ps_ret (pe_and (pe_isi (by rfl) (W.free 18 rfl) (pv 0) (pe_bltn (v := .ty "bool") rfl (W.free 19 rfl) (by decide +kernel) rfl)) (pe_one (pe_cmpR op_eq (pv 0) (pv 1) (nomark _)))))) pss_nil)
    (pss_cons (ps_if (pt_val (pe_isi (by rfl) (W.free 18 rfl) (pv 1) (pe_bltn (v := .ty "int") rfl (W.free 2 rfl) (by decide +kernel) rfl))) (pss_one (ps_ret (pe_and (pe_isi (by rfl) (W.free 18 rfl) (pv 0) (pe_bltn (v := .ty "int") rfl (W.free 2 rfl) (by decide +kernel) rfl)) (pe_and (pe_not (pe_isi (by rfl) (W.free 18 rfl) (pv 0) (pe_bltn (v := .ty "bool") rfl (W.free 19 rfl) (by decide +kernel) rfl))) (pe_one (pe_cmpR op_eq (pv 0) (pv 1) (nomark _))))))) pss_nil)
    (pss_cons (ps_if (pt_val (pe_isi (by rfl) (W.free 18 rfl) (pv 1) (pe_bltn (v := .ty "str") rfl (W.free 20 rfl) (by decide +kernel) rfl))) (pss_one (ps_ret (pe_and (pe_isi (by rfl) (W.free 18 rfl) (pv 0) (pe_bltn (v := .ty "str") rfl (W.free 20 rfl) (by decide +kernel) rfl)) (pe_one (pe_cmpR op_eq (pv 0) (pv 1) (nomark _)))))) pss_nil)
    (pss_cons (ps_if (PW.pt (pw_or (pt_cmpR op_ne (pe_isi (by rfl) (W.free 18 rfl) (pv 1) (pe_bltn (v := .ty "tuple") rfl (W.free 14 rfl) (by decide +kernel) rfl)) (pe_isi (by rfl) (W.free 18 rfl) (pv 0) (pe_bltn (v := .ty "tuple") rfl (W.free 14 rfl) (by decide +kernel) rfl)) (nomark _)) (pw_or1 (pt_cmpR op_ne (pe_isi (by rfl) (W.free 18 rfl) (pv 1) (pe_bltn (v := .ty "list") rfl (W.free 0 rfl) (by decide +kernel) rfl)) (pe_isi (by rfl) (W.free 18 rfl) (pv 0) (pe_bltn (v := .ty "list") rfl (W.free 0 rfl) (by decide +kernel) rfl)) (nomark _))))) (pss_one (ps_ret pe_bl)) pss_nil)
    (pss_cons (ps_if (pt_cmpR op_ne (pe_callB1 call_len_seq (by rfl) (W.free 1 rfl) (by decide +kernel) (pv 0)) (pe_callB1 call_len_seq (by rfl) (W.free 1 rfl) (by decide +kernel) (pv 1)) (nomark _)) (pss_one (ps_ret pe_bl)) pss_nil)
    (pss_cons (ps_for (passes_of rfl) rfl (pi_range1 (by rfl) (W.free 4 rfl) (pa_cons (pe_callB1 call_len_seq (by rfl) (W.free 1 rfl) (by decide +kernel) (pv 1)) pa_nil)) (pg_name (i := 2) nd rfl (Or.inl rfl)) (pss_one (ps_if (pt_not (pt_val (pe_callC ih (hr.mono (by omega)) rfl (W.glo 21 rfl) (passes_call (takes_of rfl rfl rfl rfl) (fun _ _ _ _ h => h)) (pa_cons (pe_ix ix_seq (pv 0) (pv 2) (fun _ _ => rfl)) (pa_cons (pe_ix ix_seq (pv 1) (pv 2) (fun _ _ => rfl)) pa_nil))))) (pss_one (ps_ret pe_bl)) pss_nil)))
    (pss_one (ps_ret pe_bl)))))))))
theorem ok_law_alike (W : Wd K mg) : Can P w K mg base 45 ("_law_alike", none) P_law_alike (sp_law_alike K) := okr_law_alike W 45
theorem sc_law_in : FnScope N_law_in P_law_in (defScope s_law_in) := ⟨rfl, rfl, rfl, by decide +kernel, rfl, by decide +kernel, by decide +kernel⟩
theorem okr_law_in (W : Wd K mg) : ∀ d, Can P w K mg base (0 + d) ("_law_in", none) P_law_in (spr_law_in K d) := by
  obtain ⟨fd, F⟩ := W.c.def_ 11 (d := d_law_in) rfl
  refine can_rec (lev := 0) F (F.bindsN fun _ _ _ _ _ _ us hl => match us, hl with | [_], _ => rfl) sc_law_in (len_law_in K) (no_law_in K) (t_law_in K) (fun d ih cdv A outer s H E hr => ?_) (fun d => pure_law_in d)
  have nd := sc_law_in.nd
  exact (pss_cons (ps_if (pt_not (pt_val (pe_isi (by rfl) (W.free 18 rfl) (pv 0) (pe_bltn (v := .ty "tuple") rfl (W.free 14 rfl) (by decide +kernel) rfl)))) (pss_one (ps_ret (pe_lst (pa_cons (pv 0) pa_nil)))) pss_nil)
    (pss_cons (ps_set (i := 1) nd rfl (Or.inl rfl) (pe_lst pa_nil))
    (pss_cons (ps_for (passes_of rfl) rfl (pi_tup (pv 0)) (pg_name (i := 2) nd rfl (Or.inl rfl)) (pss_one (ps_expr (pe_bm PySem.F.plainAttrs_list PySem.F.slot_list_extend PySem.F.type_list_extend mt_extend (pv 1) (pa_cons (pe_callC ih (hr.mono (by omega)) rfl (W.glo 22 rfl) (passes_call (takes_of rfl rfl rfl rfl) (fun _ _ _ _ h => h)) (pa_cons (pv 2) pa_nil)) pa_nil)))))
    (pss_one (ps_ret (pv 1))))))
theorem ok_law_in (W : Wd K mg) : Can P w K mg base 42 ("_law_in", none) P_law_in (sp_law_in K) := okr_law_in W 42
theorem sc_law_fits : FnScope N_law_fits P_law_fits (defScope s_law_fits) := ⟨rfl, rfl, rfl, by decide +kernel, rfl, by decide +kernel, by decide +kernel⟩
theorem okr_law_fits (W : Wd K mg) : ∀ d, Can P w K mg base (0 + d) ("_law_fits", none) P_law_fits (spr_law_fits K d) := by
  obtain ⟨fd, F⟩ := W.c.def_ 12 (d := d_law_fits) rfl
  refine can_rec (lev := 0) F (F.bindsN fun _ _ _ _ _ _ us hl => match us, hl with | [_, _], _ => rfl) sc_law_fits (len_law_fits K) (no_law_fits K) (t_law_fits K) (fun d ih cdv A outer s H E hr => ?_) (fun d => pure_law_fits d)
  have nd := sc_law_fits.nd
  exact (pss_cons (ps_if (pt_not (pt_val (pe_isi (by rfl) (W.free 18 rfl) (pv 0) (pe_bltn (v := .ty "tuple") rfl (W.free 14 rfl) (by decide +kernel) rfl)))) (pss_one (ps_ret pe_bl)) pss_nil)
    (pss_cons (ps_setLc (i := 2) (own := [("_law_part", 3)]) rfl nd rfl rfl (sw_true rfl rfl rfl (by decide +kernel)) (pi_tup (pv 0)) (blkOk_by (own := [("_law_part", 3)]) (N := N_law_fits) (sc := defScope s_law_fits) (by decide +kernel)) (fun _ _ _ _ _ => (pg_name (i := 3) nd rfl (Or.inl rfl))) (fun _ _ _ _ _ => (pts_one (pt_not (pt_val (pe_callC ih (hr.mono (by omega)) rfl (W.glo 23 rfl) passL (pa_cons (pv 3) (pa_cons (pv 1) pa_nil))))))) (fun _ _ _ _ _ => (pv 3)))
    (pss_one (ps_ret (pe_and (pe_chain op_le op_le pe_int (pe_callB1 call_len_seq (by rfl) (W.free 1 rfl) (by decide +kernel) (pv 0)) (pv 1)) (pe_one (pe_cmpR (opx_eqE (hu_of hr)) (pv 2) (pe_lst pa_nil) (nomark _))))))))
theorem ok_law_fits (W : Wd K mg) : Can P w K mg base 42 ("_law_fits", none) P_law_fits (sp_law_fits K) := okr_law_fits W 42
theorem sc_law_cost : FnScope N_law_cost P_law_cost (defScope s_law_cost) := ⟨rfl, rfl, rfl, by decide +kernel, rfl, by decide +kernel, by decide +kernel⟩
theorem okr_law_cost (W : Wd K mg) : ∀ d, Can P w K mg base (42 + d) ("_law_cost", none) P_law_cost (spr_law_cost K d) := by
  obtain ⟨fd, F⟩ := W.c.def_ 13 (d := d_law_cost) rfl
  refine can_rec (lev := 42) F (F.bindsN fun _ _ _ _ _ _ us hl => match us, hl with | [_, _], _ => rfl) sc_law_cost (len_law_cost K) (no_law_cost K) (t_law_cost K) (fun d ih cdv A outer s H E hr => ?_) (fun d => pure_law_cost d)
  have nd := sc_law_cost.nd
  exact (pss_cons (ps_if (pt_not (pt_val (pe_isi (by rfl) (W.free 18 rfl) (pv 1) (pe_bltn (v := .ty "tuple") rfl (W.free 14 rfl) (by decide +kernel) rfl)))) (pss_one (ps_ret pe_int)) pss_nil)
    (pss_cons (ps_set (i := 2) nd rfl (Or.inl rfl) (pe_callB1 (cr_sum rfl) (by rfl) (W.free 12 rfl) (by decide +kernel) (pe_lc (own := [("_law_part", 3)]) rfl nd (pi_tup (pv 1)) (blkOk_by (own := [("_law_part", 3)]) (N := N_law_cost) (sc := defScope s_law_cost) (by decide +kernel)) (fun _ _ _ _ _ => (pg_name (i := 3) nd rfl (Or.inl rfl))) (fun _ _ _ _ _ => pts_nil) (fun _ _ _ _ _ => (pe_callC ih (hr.mono (by omega)) rfl (W.glo 24 rfl) passL (pa_cons (pv 0) (pa_cons (pv 3) pa_nil)))))))
    (pss_one (ps_ret (pe_op op_add (pv 2) (pe_callB1 (cr_sum rfl) (by rfl) (W.free 12 rfl) (by decide +kernel) (pe_lc (own := [("_law_run", 4)]) rfl nd (pi_list (pe_callC (ok_law_in W) (hr.mono (by omega)) rfl (W.glo 22 rfl) (passes_call (takes_of rfl rfl rfl rfl) (fun _ _ _ _ h => h)) (pa_cons (pv 1) pa_nil))) (blkOk_by (own := [("_law_run", 4)]) (N := N_law_cost) (sc := defScope s_law_cost) (by decide +kernel)) (fun _ _ _ _ _ => (pg_name (i := 4) nd rfl (Or.inl rfl))) (fun _ _ _ _ _ => pts_nil) (fun _ _ _ _ _ => (pe_ix ix_list (pv 0) (pv 4) (fun _ _ => rfl))))))))))
theorem ok_law_cost (W : Wd K mg) : Can P w K mg base 84 ("_law_cost", none) P_law_cost (sp_law_cost K) := okr_law_cost W 42
theorem sc_bound : FnScope N_bound P_bound (defScope s_bound) := ⟨rfl, rfl, rfl, by decide +kernel, rfl, by decide +kernel, by decide +kernel⟩
theorem ok_bound (W : Wd K mg) : Can P w K mg base 2 ("bound", none) P_bound (sp_bound K) := by
  obtain ⟨fd, F⟩ := W.c.def_ 14 (d := d_bound) rfl
  refine can_of F (F.bindsN fun _ _ _ _ _ _ us hl => match us, hl with | [_, _, _], _ => rfl) sc_bound (fun vs H Q E h => by unfold sp_bound at h; match vs, h with | [_, _, _], _ => rfl) (t_bound K) (fun cdv A outer s H E hr => ?_) (pure_bound)
  have nd := sc_bound.nd
  exact (pss_cons (ps_expr (pe_callC (ok_need_lengths W) (hr.mono (by decide)) rfl (W.glo 15 rfl) (passes_call (takes_of rfl rfl rfl rfl) (fun _ _ _ _ h => h)) (pa_cons (pv 0) pa_nil)))
    (pss_cons (ps_expr (pe_callC (ok_need_ways W) (hr.mono (by decide)) rfl (W.glo 16 rfl) (passes_call (takes_of rfl rfl rfl rfl) (fun _ _ _ _ h => h)) (pa_cons (pv 1) pa_nil)))
    (pss_cons (ps_set (i := 3) nd rfl (Or.inl rfl) (pe_callTy1 (call_dictPT (hu16 hr) rfl) (by rfl) (W.free 25 rfl) (by decide +kernel) (pe_lc (own := [("begin", 4), ("end", 5), ("number", 6)]) rfl nd (pi_list (pv 2)) (blkOk_by (own := [("begin", 4), ("end", 5), ("number", 6)]) (N := N_bound) (sc := defScope s_bound) (by decide +kernel)) (fun _ _ _ _ _ => (pg_tup rfl (pgs_cons (pg_name (i := 4) nd rfl (Or.inl rfl)) (pgs_cons (pg_name (i := 5) nd rfl (Or.inl rfl)) (pgs_cons (pg_name (i := 6) nd rfl (Or.inl rfl)) pgs_nil))))) (fun _ _ _ _ _ => pts_nil) (fun _ _ _ _ _ => (pe_tup (pa_cons (pe_tup (pa_cons (pv 4) (pa_cons (pv 5) pa_nil))) (pa_cons (pv 6) pa_nil)))))))
    (pss_cons (ps_if (PW.pt (pw_or (pt_cmpR op_ne (pe_callB1 call_len_dT (by rfl) (W.free 1 rfl) (by decide +kernel) (pv 3)) (pe_callB1 call_len_seq (by rfl) (W.free 1 rfl) (by decide +kernel) (pv 2)) (nomark _)) (pw_or1 (pt_cmpR (op_neD (hu64 hr)) (pe_callB1 (cr_sortedKT rfl) (by rfl) (W.free 26 rfl) (by decide +kernel) (pv 3)) (pe_callB1 cr_sortedPO (by rfl) (W.free 26 rfl) (by decide +kernel) (pe_callC (ok_stretches W) (hr.mono (by decide)) rfl (W.glo 10 rfl) (passes_call (takes_of rfl rfl rfl rfl) (fun _ _ _ _ h => h)) (pa_cons (pe_callB1 call_len_seq (by rfl) (W.free 1 rfl) (by decide +kernel) (pv 0)) pa_nil))) (nomark _))))) (pss_one (ps_raiseE (W.exc 27 rfl) (W.glo 28 rfl) rfl rfl (takes_of rfl rfl rfl rfl))) pss_nil)
    (pss_cons (ps_lock (ps_for (passes_of rfl) rfl (pi_keys (pv 3)) (pg_tup rfl (pgs_cons (pg_name (i := 4) nd rfl (Or.inl rfl)) (pgs_cons (pg_name (i := 5) nd rfl (Or.inl rfl)) pgs_nil))) (pss_one (ps_if (pt_cmpR op_gt (pe_dget (hu_of hr) (pv 3) (pe_tup (pa_cons (pv 4) (pa_cons (pv 5) pa_nil))) (fun _ _ => rfl)) (pe_op op_add (pe_ixC ix_tup (pe_callC (ok_cuts_of W) (hr.mono (by decide)) rfl (W.glo 11 rfl) (passes_call (takes_of rfl rfl rfl rfl) (fun _ _ _ _ h => h)) (pa_cons (pv 3) (pa_cons (pv 4) (pa_cons (pv 5) (pa_cons (pv 1) pa_nil))))) pe_int (fun _ _ => rfl)) (pe_callB1 (cr_sum rfl) (by rfl) (W.free 12 rfl) (by decide +kernel) (pe_slice sl_list (pv 0) (po_some (pv 4)) (po_some (pv 5))))) (nomark _)) (pss_one (ps_raiseE (W.exc 27 rfl) (W.glo 28 rfl) rfl rfl (takes_of rfl rfl rfl rfl))) pss_nil))))
    (pss_one (ps_ret (pe_dget2 (hu_of hr) (pv 3) (pe_tup (pa_consC pe_int (pa_cons (pe_callB1 call_len_seq (by rfl) (W.free 1 rfl) (by decide +kernel) (pv 0)) pa_nil))) pe_int ⟨rfl, rfl, rfl, rfl⟩))))))))
theorem sc_paper : FnScope N_paper P_paper (defScope s_paper) := ⟨rfl, rfl, rfl, by decide +kernel, rfl, by decide +kernel, by decide +kernel⟩
theorem ok_paper (W : Wd K mg) : Can P w K mg base 3 ("paper", none) P_paper (sp_paper K) := by
  obtain ⟨fd, F⟩ := W.c.def_ 15 (d := d_paper) rfl
  refine can_of F (F.bindsN fun _ _ _ _ _ _ us hl => match us, hl with | [_, _], _ => rfl) sc_paper (fun vs H Q E h => by unfold sp_paper at h; match vs, h with | [_, _], _ => rfl) (t_paper K) (fun cdv A outer s H E hr => ?_) (pure_paper)
  have nd := sc_paper.nd
  exact (pss_cons (ps_expr (pe_callC (ok_need_lengths W) (hr.mono (by decide)) rfl (W.glo 15 rfl) (passes_call (takes_of rfl rfl rfl rfl) (fun _ _ _ _ h => h)) (pa_cons (pv 0) pa_nil)))
    (pss_cons (ps_expr (pe_callC (ok_need_ways W) (hr.mono (by decide)) rfl (W.glo 16 rfl) (passes_call (takes_of rfl rfl rfl rfl) (fun _ _ _ _ h => h)) (pa_cons (pv 1) pa_nil)))
    (pss_cons (ps_set (i := 2) nd rfl (Or.inr rfl) (pe_ixC ix_tup (pe_callC (ok_neighbours_of W) (hr.mono (by decide)) rfl (W.glo 17 rfl) (passes_call (takes_of rfl rfl rfl rfl) (fun _ _ _ _ h => h)) (pa_cons (pe_callTy1 call_list_of (by rfl) (W.free 0 rfl) (by decide +kernel) (pv 0)) (pa_cons (pv 1) pa_nil))) pe_int (fun _ _ => rfl)))
    (pss_one (ps_ret (pe_lc (own := [("begin", 3), ("end", 4)]) rfl nd (pi_list (pe_callB1 (cr_sortedKT rfl) (by rfl) (W.free 26 rfl) (by decide +kernel) (pv 2))) (blkOk_by (own := [("begin", 3), ("end", 4)]) (N := N_paper) (sc := defScope s_paper) (by decide +kernel)) (fun _ _ _ _ _ => (pg_tup rfl (pgs_cons (pg_name (i := 3) nd rfl (Or.inl rfl)) (pgs_cons (pg_name (i := 4) nd rfl (Or.inl rfl)) pgs_nil)))) (fun _ _ _ _ _ => pts_nil) (fun _ _ _ _ _ => (pe_tup (pa_cons (pv 3) (pa_cons (pv 4) (pa_cons (pe_dget (hu_of hr) (pv 2) (pe_tup (pa_cons (pv 3) (pa_cons (pv 4) pa_nil))) (fun _ _ => rfl)) pa_nil)))))))))))
theorem sc_law_right : FnScope N_law_right P_law_right (defScope s_law_right) := ⟨rfl, rfl, rfl, by decide +kernel, rfl, by decide +kernel, by decide +kernel⟩
theorem ok_law_right (W : Wd K mg) : Can P w K mg base 85 ("_law_right", none) P_law_right (sp_law_right K) := by
  obtain ⟨fd, F⟩ := W.c.def_ 16 (d := d_law_right) rfl
  refine can_of F (F.bindsN fun _ _ _ _ _ _ us hl => match us, hl with | [_, _], _ => rfl) sc_law_right (fun vs H Q E h => by unfold sp_law_right at h; match vs, h with | [_, _], _ => rfl) (t_law_right K) (fun cdv A outer s H E hr => ?_) (pure_law_right)
  have nd := sc_law_right.nd
  exact (pss_cons (ps_set (i := 2) nd rfl (Or.inl rfl) (pe_callTy1 call_list_of (by rfl) (W.free 0 rfl) (by decide +kernel) (pv 0)))
    (pss_cons (ps_asg (pe_callC (ok_neighbours W) (hr.mono (by decide)) rfl (W.glo 29 rfl) (passes_call (takes_of rfl rfl rfl rfl) (fun _ _ _ _ h => h)) (pa_cons (pv 2) (pa_cons (pv 1) pa_nil))) (pg_tup rfl (pgs_cons (pg_name (i := 3) nd rfl (Or.inl rfl)) (pgs_cons (pg_name (i := 4) nd rfl (Or.inl rfl)) pgs_nil))))
    (pss_cons (ps_if (PW.pt (pw_or (pt_cmpR (op_neD (hu64 hr)) (pe_callC (ok_law_in W) (hr.mono (by decide)) rfl (W.glo 22 rfl) (passes_call (takes_of rfl rfl rfl rfl) (fun _ _ _ _ h => h)) (pa_cons (pv 4) pa_nil)) (pe_listRg rfl rfl (W.free 0 rfl) (prg_1 rfl (W.free 4 rfl) (pe_callB1 call_len_seq (by rfl) (W.free 1 rfl) (by decide +kernel) (pv 0)))) (nomark _)) (pw_or (pt_not (pt_val (pe_callC (ok_law_fits W) (hr.mono (by decide)) rfl (W.glo 23 rfl) (passes_call (takes_of rfl rfl rfl rfl) (fun _ _ _ _ h => h)) (pa_cons (pv 4) (pa_cons (pv 1) pa_nil))))) (pw_or1 (pt_cmpR (op_neD (hu64 hr)) (pv 2) (pv 0) (nomark _)))))) (pss_one (ps_ret pe_non)) pss_nil)
    (pss_cons (ps_if (pt_not (pt_val (pe_callC (ok_law_alike W) (hr.mono (by decide)) rfl (W.glo 21 rfl) (passes_call (takes_of rfl rfl rfl rfl) (fun _ _ _ _ h => h)) (pa_cons (pv 3) (pa_cons (pe_callC (ok_law_cost W) (hr.mono (by decide)) rfl (W.glo 24 rfl) (passes_call (takes_of rfl rfl rfl rfl) (fun _ _ _ _ h => h)) (pa_cons (pv 0) (pa_cons (pv 4) pa_nil))) pa_nil))))) (pss_one (ps_ret pe_non)) pss_nil)
    (pss_one (ps_ret (pe_ifExp (pt_cmpR op_eq (pe_callC (ok_bound W) (hr.mono (by decide)) rfl (W.glo 31 rfl) (passes_call (takes_of rfl rfl rfl rfl) (fun _ _ _ _ h => h)) (pa_cons (pv 0) (pa_cons (pv 1) (pa_cons (pe_callC (ok_paper W) (hr.mono (by decide)) rfl (W.glo 30 rfl) (passes_call (takes_of rfl rfl rfl rfl) (fun _ _ _ _ h => h)) (pa_cons (pv 0) (pa_cons (pv 1) pa_nil))) pa_nil)))) (pv 3) (nomark _)) (pv 3) pe_non)))))))
theorem sc_law_fewest : FnScope N_law_fewest P_law_fewest (defScope s_law_fewest) := ⟨rfl, rfl, rfl, by decide +kernel, rfl, by decide +kernel, by decide +kernel⟩
theorem okr_law_fewest (W : Wd K mg) : ∀ d, Can P w K mg base (0 + d) ("_law_fewest", none) P_law_fewest (spr_law_fewest K d) := by
  obtain ⟨fd, F⟩ := W.c.def_ 17 (d := d_law_fewest) rfl
  refine can_rec (lev := 0) F (F.bindsN fun _ _ _ _ _ _ us hl => match us, hl with | [_, _, _], _ => rfl) sc_law_fewest (len_law_fewest K) (no_law_fewest K) (t_law_fewest K) (fun d ih cdv A outer s H E hr => ?_) (fun d => pure_law_fewest d)
  have nd := sc_law_fewest.nd
  exact (pss_cons (ps_if (pt_cmpRC op_eq (pe_callB1 call_len_seq (by rfl) (W.free 1 rfl) (by decide +kernel) (pv 0)) pe_int (nomark _)) (pss_one (ps_ret pe_int)) pss_nil)
    (pss_cons (ps_set (i := 3) nd rfl (Or.inl rfl) (pe_callTy1 call_tuple_of (by rfl) (W.free 14 rfl) (by decide +kernel) (pv 0)))
    (pss_cons (ps_if (pt_cmp (pc_dnotin (hu_of hr) (pv 3) (pv 2)) rfl) (pss_cons (ps_set (i := 4) nd rfl (Or.inl rfl) (pe_lst pa_nil))
    (pss_cons (ps_for (passes_of rfl) rfl (pi_range2 (by rfl) (W.free 4 rfl) (pa_consC pe_int (pa_cons (pe_opC op_add (pe_callB (call_min2 rfl) (by rfl) (W.free 9 rfl) (by decide +kernel) (pa_cons (pv 1) (pa_cons (pe_callB1 call_len_seq (by rfl) (W.free 1 rfl) (by decide +kernel) (pv 3)) pa_nil))) pe_int) pa_nil))) (pg_name (i := 5) nd rfl (Or.inl rfl)) (pss_one (ps_for (passes_of rfl) rfl (pi_range1 (by rfl) (W.free 4 rfl) (pa_cons (pe_opC op_add (pe_op op_sub (pe_callB1 call_len_seq (by rfl) (W.free 1 rfl) (by decide +kernel) (pv 3)) (pv 5)) pe_int) pa_nil)) (pg_name (i := 6) nd rfl (Or.inl rfl)) (pss_cons (ps_set (i := 7) nd rfl (Or.inl rfl) (pe_callB1 (cr_sumT rfl) (by rfl) (W.free 12 rfl) (by decide +kernel) (pe_slice sl_tupA (pv 3) (po_some (pv 6)) (po_some (pe_op op_add (pv 6) (pv 5))))))
    (pss_cons (ps_set (i := 8) nd rfl (Or.inl rfl) (pe_op op_cat (pe_op op_cat (pe_callTy1 call_list_of (by rfl) (W.free 0 rfl) (by decide +kernel) (pe_slice sl_tupA (pv 3) po_none (po_some (pv 6)))) (pe_lst (pa_cons (pv 7) pa_nil))) (pe_callTy1 call_list_of (by rfl) (W.free 0 rfl) (by decide +kernel) (pe_slice sl_tupA (pv 3) (po_some (pe_op op_add (pv 6) (pv 5))) po_none))))
    (pss_one (ps_expr (pe_bm PySem.F.plainAttrs_list PySem.F.slot_list_append PySem.F.type_list_append mt_append (pv 4) (pa_cons (pe_op op_add (pv 7) (pe_callC ih (hr.mono (by omega)) rfl (W.glo 32 rfl) (passes_call (takes_of rfl rfl rfl rfl) (fun _ _ _ _ h => h)) (pa_cons (pv 8) (pa_cons (pv 1) (pa_cons (pv 2) pa_nil))))) pa_nil)))))))))
    (pss_one (ps_dput (hu_of hr) (pv 2) (pv 3) (pe_callB1 (cr_min rfl) (by rfl) (W.free 9 rfl) (by decide +kernel) (pv 4)) rfl)))) pss_nil)
    (pss_one (ps_ret (pe_dget (hu_of hr) (pv 2) (pv 3) (fun _ _ => rfl)))))))
theorem ok_law_fewest (W : Wd K mg) : Can P w K mg base 9 ("_law_fewest", none) P_law_fewest (sp_law_fewest K) := okr_law_fewest W 9
theorem sc_law_is_refused : FnScope N_law_is_refused P_law_is_refused (defScope s_law_is_refused) := ⟨rfl, rfl, rfl, by decide +kernel, rfl, by decide +kernel, by decide +kernel⟩
theorem ok_law_is_refused (W : Wd K mg) : Can P w K mg base 4 ("_law_is_refused", none) P_law_is_refused (sp_law_is_refused K) := by
  obtain ⟨fd, F⟩ := W.c.def_ 18 (d := d_law_is_refused) rfl
  refine can_of F (F.bindsN fun _ _ _ _ _ _ us hl => match us, hl with | [_, _, _], _ => rfl) sc_law_is_refused (fun vs H Q E h => by unfold sp_law_is_refused at h; match vs, h with | [_, _, _], _ => rfl) (t_law_is_refused K) (fun cdv A outer s H E hr => ?_) (pure_law_is_refused (W.exm 42 rfl))
  have nd := sc_law_is_refused.nd
  exact (pss_cons (ps_set (i := 3) nd rfl (Or.inl rfl) (pe_callC (ok_paper W) (hr.mono (by decide)) rfl (W.glo 30 rfl) (passes_call (takes_of rfl rfl rfl rfl) (fun _ _ _ _ h => h)) (pa_cons (pv 1) (pa_cons (pv 2) pa_nil))))
    (pss_cons (ps_if (pt_cmpR (opx_eqE (hu_of hr)) (pv 3) (pe_lst pa_nil) (nomark _)) (pss_one (ps_ret pe_bl)) pss_nil)
    (pss_cons (ps_set (i := 4) nd rfl (Or.inl rfl) (pe_callC (ok_law_take W) (hr.mono (by decide)) rfl (W.glo 3 rfl) (passes_call (takes_of rfl rfl rfl rfl) (fun _ _ _ _ h => h)) (pa_cons (pv 0) (pa_cons (pe_callB1 call_len_seq (by rfl) (W.free 1 rfl) (by decide +kernel) (pv 3)) pa_nil))))
    (pss_cons (ps_asg (pe_ix ix_list (pv 3) (pv 4) (fun _ _ => rfl)) (pg_tup rfl (pgs_cons (pg_name (i := 5) nd rfl (Or.inl rfl)) (pgs_cons (pg_name (i := 6) nd rfl (Or.inl rfl)) (pgs_cons (pg_name (i := 7) nd rfl (Or.inl rfl)) pgs_nil)))))
    (pss_cons (ps_tryO (tb := fun Wt => (tDrop (tCallS (sp_bound K) (WE Wt) (tCons (tVar 1) (tCons (tVar 2) (tCons (tOp rCat (tOp rCat (tSl (rSlL K) (tVar 3) tNoPart (tPart (tVar 4))) (tLst (tCons (tTup (tCons (tVar 5) (tCons (tVar 6) (tCons (tOpC xAdd (tVar 7) (.int 1)) tNil)))) tNil))) (tSl (rSlL K) (tVar 3) (tPart (tOpC xAdd (tVar 4) (.int 1))) tNoPart)) tNil)))))) rfl rfl rfl (W.glo 28 rfl) (takes_of rfl rfl rfl rfl) (fun Wt pn xe tk po => (pss_one (ps_expr (pe_callCS (ok_bound W) (hr.mono (by decide)) rfl (W.glo 31 rfl) tk (pa_cons (pv 1) (pa_cons (pv 2) (pa_cons (pe_op op_cat (pe_op op_cat (pe_slice sl_list (pv 3) po_none (po_some (pv 4))) (pe_lst (pa_cons (pe_tup (pa_cons (pv 5) (pa_cons (pv 6) (pa_cons (pe_opC op_add (pv 7) pe_int) pa_nil)))) pa_nil))) (pe_slice sl_list (pv 3) (po_some (pe_opC op_add (pv 4) pe_int)) po_none)) pa_nil))))))) (fun a oe cls d pn _ _ => (pss_one (ps_ret pe_bl))))
    (pss_one (ps_ret pe_bl)))))))
theorem sc_how_many : FnScope N_how_many P_how_many (defScope s_how_many) := ⟨rfl, rfl, rfl, by decide +kernel, rfl, by decide +kernel, by decide +kernel⟩
theorem ok_how_many (W : Wd K mg) : Can P w K mg base 1 ("how_many", none) P_how_many (sp_how_many K) := by
  obtain ⟨fd, F⟩ := W.c.def_ 19 (d := d_how_many) rfl
  refine can_of F (F.bindsN fun _ _ _ _ _ _ us hl => match us, hl with | [_, _], _ => rfl) sc_how_many (fun vs H Q E h => by unfold sp_how_many at h; match vs, h with | [_, _], _ => rfl) (t_how_many K) (fun cdv A outer s H E hr => ?_) (pure_how_many)
  have nd := sc_how_many.nd
  exact (pss_one (ps_ret (pe_opD op_add pe_int (pe_op op_mod (pe_opC op_sub (pv 0) pe_int) (pe_opC op_sub (pv 1) pe_int)))))
theorem sc_least_runs : FnScope N_least_runs P_least_runs (defScope s_least_runs) := ⟨rfl, rfl, rfl, by decide +kernel, rfl, by decide +kernel, by decide +kernel⟩
theorem ok_least_runs (W : Wd K mg) : Can P w K mg base 2 ("least_runs", none) P_least_runs (sp_least_runs K) := by
  obtain ⟨fd, F⟩ := W.c.def_ 20 (d := d_least_runs) rfl
  refine can_of F (F.bindsN fun _ _ _ _ _ _ us hl => match us, hl with | [_, _], _ => rfl) sc_least_runs (fun vs H Q E h => by unfold sp_least_runs at h; match vs, h with | [_, _], _ => rfl) (t_least_runs K) (fun cdv A outer s H E hr => ?_) (pure_least_runs)
  have nd := sc_least_runs.nd
  exact (pss_one (ps_ret (pe_lc (own := [("size", 2), ("name", 3)]) rfl nd (pi_list (pe_slice sl_list (pe_callB1 cr_sortedPO (by rfl) (W.free 26 rfl) (by decide +kernel) (pv 0)) po_none (po_some (pe_callC (ok_how_many W) (hr.mono (by decide)) rfl (W.glo 33 rfl) (passes_call (takes_of rfl rfl rfl rfl) (fun _ _ _ _ h => h)) (pa_cons (pe_callB1 call_len_seq (by rfl) (W.free 1 rfl) (by decide +kernel) (pv 0)) (pa_cons (pv 1) pa_nil)))))) (blkOk_by (own := [("size", 2), ("name", 3)]) (N := N_least_runs) (sc := defScope s_least_runs) (by decide +kernel)) (fun _ _ _ _ _ => (pg_tup rfl (pgs_cons (pg_name (i := 2) nd rfl (Or.inl rfl)) (pgs_cons (pg_name (i := 3) nd rfl (Or.inl rfl)) pgs_nil)))) (fun _ _ _ _ _ => pts_nil) (fun _ _ _ _ _ => (pv 3)))))
theorem sc_cheapest : FnScope N_cheapest P_cheapest (defScope s_cheapest) := ⟨rfl, rfl, rfl, by decide +kernel, rfl, by decide +kernel, by decide +kernel⟩
theorem ok_cheapest (W : Wd K mg) : Can P w K mg base 3 ("cheapest", none) P_cheapest (sp_cheapest K) := by
  obtain ⟨fd, F⟩ := W.c.def_ 21 (d := d_cheapest) rfl
  refine can_of F (F.bindsN fun _ _ _ _ _ _ us hl => match us, hl with | [_, _], _ => rfl) sc_cheapest (fun vs H Q E h => by unfold sp_cheapest at h; match vs, h with | [_, _], _ => rfl) (t_cheapest K) (fun cdv A outer s H E hr => ?_) (pure_cheapest)
  have nd := sc_cheapest.nd
  exact (pss_cons (ps_expr (pe_callC (ok_need_lengths W) (hr.mono (by decide)) rfl (W.glo 15 rfl) (passes_call (takes_of rfl rfl rfl rfl) (fun _ _ _ _ h => h)) (pa_cons (pv 0) pa_nil)))
    (pss_cons (ps_expr (pe_callC (ok_need_ways W) (hr.mono (by decide)) rfl (W.glo 16 rfl) (passes_call (takes_of rfl rfl rfl rfl) (fun _ _ _ _ h => h)) (pa_cons (pv 1) pa_nil)))
    (pss_cons (ps_set (i := 2) nd rfl (Or.inr rfl) (pe_callTy1 (call_dictP rfl) (by rfl) (W.free 25 rfl) (by decide +kernel) (pe_lc (own := [("run", 8)]) rfl nd (pi_range1 (by rfl) (W.free 4 rfl) (pa_cons (pe_callB1 call_len_seq (by rfl) (W.free 1 rfl) (by decide +kernel) (pv 0)) pa_nil)) (blkOk_by (own := [("run", 8)]) (N := N_cheapest) (sc := defScope s_cheapest) (by decide +kernel)) (fun _ _ _ _ _ => (pg_name (i := 8) nd rfl (Or.inl rfl))) (fun _ _ _ _ _ => pts_nil) (fun _ _ _ _ _ => (pe_tup (pa_cons (pv 8) (pa_cons (pv 8) pa_nil)))))))
    (pss_cons (ps_setLc (i := 3) (own := [("run", 8)]) rfl nd rfl rfl (sw_true rfl rfl rfl (by decide +kernel)) (pi_range1 (by rfl) (W.free 4 rfl) (pa_cons (pe_callB1 call_len_seq (by rfl) (W.free 1 rfl) (by decide +kernel) (pv 0)) pa_nil)) (blkOk_by (own := [("run", 8)]) (N := N_cheapest) (sc := defScope s_cheapest) (by decide +kernel)) (fun _ _ _ _ _ => (pg_name (i := 8) nd rfl (Or.inl rfl))) (fun _ _ _ _ _ => pts_nil) (fun _ _ _ _ _ => (pe_tup (pa_cons (pe_ix ix_list (pv 0) (pv 8) (fun _ _ => rfl)) (pa_cons (pv 8) pa_nil)))))
    (pss_cons (ps_set (i := 4) nd rfl (Or.inl rfl) pe_int)
    (pss_cons (ps_while (passes_of rfl) (pt_cmpRC op_gt (pe_callB1 call_len_seq (by rfl) (W.free 1 rfl) (by decide +kernel) (pv 3)) pe_int (nomark _)) (pss_cons (ps_set (i := 5) nd rfl (Or.inr rfl) (pe_callC (ok_least_runs W) (hr.mono (by decide)) rfl (W.glo 34 rfl) (passes_call (takes_of rfl rfl rfl rfl) (fun _ _ _ _ h => h)) (pa_cons (pv 3) (pa_cons (pv 1) pa_nil))))
    (pss_cons (ps_set (i := 6) nd rfl (Or.inl rfl) (pe_callB1 (cr_sum rfl) (by rfl) (W.free 12 rfl) (by decide +kernel) (pe_lc (own := [("one", 9), ("name", 7)]) rfl nd (pi_list (pv 3)) (blkOk_by (own := [("one", 9), ("name", 7)]) (N := N_cheapest) (sc := defScope s_cheapest) (by decide +kernel)) (fun _ _ _ _ _ => (pg_tup rfl (pgs_cons (pg_name (i := 9) nd rfl (Or.inl rfl)) (pgs_cons (pg_name (i := 7) nd rfl (Or.inl rfl)) pgs_nil)))) (fun _ _ _ _ _ => (pts_one (pt_cmpR op_in_seq (pv 7) (pv 5) (by rfl)))) (fun _ _ _ _ _ => (pv 9)))))
    (pss_cons (ps_set (i := 7) nd rfl (Or.inl rfl) (pe_op op_add (pe_callB1 call_len_seq (by rfl) (W.free 1 rfl) (by decide +kernel) (pv 0)) (pe_callB1 call_lenD (by rfl) (W.free 1 rfl) (by decide +kernel) (pv 2))))
    (pss_cons (ps_dput (hu_of hr) (pv 2) (pv 7) (pe_callTy1 call_tuple_of (by rfl) (W.free 14 rfl) (by decide +kernel) (pe_lc (own := [("one", 9)]) rfl nd (pi_list (pv 5)) (blkOk_by (own := [("one", 9)]) (N := N_cheapest) (sc := defScope s_cheapest) (by decide +kernel)) (fun _ _ _ _ _ => (pg_name (i := 9) nd rfl (Or.inl rfl))) (fun _ _ _ _ _ => pts_nil) (fun _ _ _ _ _ => (pe_dget (hu_of hr) (pv 2) (pv 9) (fun _ _ => rfl))))) rfl)
    (pss_cons (ps_set (i := 3) nd rfl (Or.inl rfl) (pe_op op_cat (pe_lc (own := [("row", 10)]) rfl nd (pi_list (pv 3)) (blkOk_by (own := [("row", 10)]) (N := N_cheapest) (sc := defScope s_cheapest) (by decide +kernel)) (fun _ _ _ _ _ => (pg_name (i := 10) nd rfl (Or.inl rfl))) (fun _ _ _ _ _ => (pts_one (pt_cmpR op_notIn_seq (pe_ixC ix_tup (pv 10) pe_int (fun _ _ => rfl)) (pv 5) (by rfl)))) (fun _ _ _ _ _ => (pv 10))) (pe_lst (pa_cons (pe_tup (pa_cons (pv 6) (pa_cons (pv 7) pa_nil))) pa_nil))))
    (pss_one (ps_set (i := 4) nd rfl (Or.inl rfl) (pe_op op_add (pv 4) (pv 6))))))))))
    (pss_one (ps_ret (pe_tup (pa_cons (pv 4) (pa_cons (pe_dget (hu_of hr) (pv 2) (pe_ixC ix_tup (pe_ixC ix_list (pv 3) pe_int (fun _ _ => rfl)) pe_int (fun _ _ => rfl)) (fun _ _ => rfl)) pa_nil)))))))))))
theorem sc_law_side : FnScope N_law_side P_law_side (defScope s_law_side) := ⟨rfl, rfl, rfl, by decide +kernel, rfl, by decide +kernel, by decide +kernel⟩
theorem ok_law_side (W : Wd K mg) : Can P w K mg base 2 ("_law_side", none) P_law_side (sp_law_side K) := by
  obtain ⟨fd, F⟩ := W.c.def_ 22 (d := d_law_side) rfl
  refine can_of F (F.bindsN fun _ _ _ _ _ _ us hl => match us, hl with | [_, _, _], _ => rfl) sc_law_side (fun vs H Q E h => by unfold sp_law_side at h; match vs, h with | [_, _, _], _ => rfl) (t_law_side K) (fun cdv A outer s H E hr => ?_) (pure_law_side)
  have nd := sc_law_side.nd
  exact (pss_cons (ps_set (i := 3) nd rfl (Or.inl rfl) (pe_callTy1 call_list_of (by rfl) (W.free 0 rfl) (by decide +kernel) (pv 1)))
    (pss_cons (ps_while (passes_of rfl) (pt_cmpRC op_gt (pe_callB1 call_len_seq (by rfl) (W.free 1 rfl) (by decide +kernel) (pv 3)) pe_int (nomark _)) (pss_cons (ps_set (i := 4) nd rfl (Or.inl rfl) (pe_callB (call_min2 rfl) (by rfl) (W.free 9 rfl) (by decide +kernel) (pa_cons (pe_callB1 call_len_seq (by rfl) (W.free 1 rfl) (by decide +kernel) (pv 3)) (pa_cons (pe_opD op_add pe_int (pe_callC (ok_law_take W) (hr.mono (by decide)) rfl (W.glo 3 rfl) (passes_call (takes_of rfl rfl rfl rfl) (fun _ _ _ _ h => h)) (pa_cons (pv 0) (pa_cons (pe_opC op_sub (pv 2) pe_int) pa_nil)))) pa_nil))))
    (pss_cons (ps_set (i := 5) nd rfl (Or.inl rfl) (pe_callC (ok_law_take W) (hr.mono (by decide)) rfl (W.glo 3 rfl) (passes_call (takes_of rfl rfl rfl rfl) (fun _ _ _ _ h => h)) (pa_cons (pv 0) (pa_cons (pe_opC op_add (pe_op op_sub (pe_callB1 call_len_seq (by rfl) (W.free 1 rfl) (by decide +kernel) (pv 3)) (pv 4)) pe_int) pa_nil))))
    (pss_cons (ps_set (i := 6) nd rfl (Or.inl rfl) (pe_callTy1 call_tuple_of (by rfl) (W.free 14 rfl) (by decide +kernel) (pe_slice sl_list (pv 3) (po_some (pv 5)) (po_some (pe_op op_add (pv 5) (pv 4))))))
    (pss_one (ps_set (i := 3) nd rfl (Or.inl rfl) (pe_op op_cat (pe_op op_cat (pe_slice sl_list (pv 3) po_none (po_some (pv 5))) (pe_lst (pa_cons (pv 6) pa_nil))) (pe_slice sl_list (pv 3) (po_some (pe_op op_add (pv 5) (pv 4))) po_none))))))))
    (pss_one (ps_ret (pe_ixC ix_list (pv 3) pe_int (fun _ _ => rfl))))))
theorem sc_law : FnScope N_law P_law (defScope s_law) := ⟨rfl, rfl, rfl, by decide +kernel, rfl, by decide +kernel, by decide +kernel⟩
theorem fn_law (W : Wd K mg) {fd : FuncData} (F : FunD K d_law.name d_law.qual d_law.params d_law.body d_law.scope [] [] (He.fAd K d_law.at_) fd) : FnOk P w K mg base (L2.CX P w) 86 (He.fAd K d_law.at_) fd P_law (sp_law K) := by
  refine F.ok sc_law (fun vs H Q E h => by unfold sp_law at h; match vs, h with | [_], _ => rfl) (fun cdv A outer s H vs Q E hr hsp => ⟨t_law K E, ?_, pure_law vs H Q E hsp⟩)
  have nd := sc_law.nd
  exact (pss_cons (ps_set (i := 1) nd rfl (Or.inl rfl) (pe_callC (ok_law_begun W) (hr.mono (by decide)) rfl (W.glo 35 rfl) (passes_call (takes_of rfl rfl rfl rfl) (fun _ _ _ _ h => h)) (pa_cons (pv 0) pa_nil)))
    (pss_cons (ps_for (passes_of rfl) rfl (pi_range1 (by rfl) (W.free 4 rfl) (pa_consC pe_int pa_nil)) (pg_name (i := 2) nd rfl (Or.inl rfl)) (pss_cons (ps_set (i := 3) nd rfl (Or.inl rfl) (pe_callC (ok_law_lengths W) (hr.mono (by decide)) rfl (W.glo 36 rfl) (passes_call (takes_of rfl rfl rfl rfl) (fun _ _ _ _ h => h)) (pa_cons (pv 1) (pa_consC pe_int pa_nil))))
    (pss_cons (ps_set (i := 4) nd rfl (Or.inl rfl) (pe_opD op_add pe_int (pe_callC (ok_law_take W) (hr.mono (by decide)) rfl (W.glo 3 rfl) (passes_call (takes_of rfl rfl rfl rfl) (fun _ _ _ _ h => h)) (pa_cons (pv 1) (pa_consC pe_int pa_nil)))))
    (pss_one (ps_if (pt_cmpR op_ne (pe_callC (ok_law_right W) (hr.mono (by decide)) rfl (W.glo 37 rfl) (passes_call (takes_of rfl rfl rfl rfl) (fun _ _ _ _ h => h)) (pa_cons (pv 3) (pa_cons (pv 4) pa_nil))) (pe_callC (ok_law_fewest W) (hr.mono (by decide)) rfl (W.glo 32 rfl) (passes_call (takes_of rfl rfl rfl rfl) (fun _ _ _ _ h => h)) (pa_cons (pv 3) (pa_cons (pv 4) (pa_cons pe_dnewT pa_nil)))) (nomark _)) (pss_one (ps_ret pe_bl)) pss_nil)))))
    (pss_cons (ps_for (passes_of rfl) rfl (pi_range1 (by rfl) (W.free 4 rfl) (pa_consC pe_int pa_nil)) (pg_name (i := 2) nd rfl (Or.inl rfl)) (pss_cons (ps_set (i := 3) nd rfl (Or.inl rfl) (pe_callC (ok_law_lengths W) (hr.mono (by decide)) rfl (W.glo 36 rfl) (passes_call (takes_of rfl rfl rfl rfl) (fun _ _ _ _ h => h)) (pa_cons (pv 1) (pa_cons (pe_ifExp (pt_cmpRC op_eq (pv 2) pe_int (nomark _)) (pe_ix ix_list (pe_lst (pa_consC pe_int (pa_consC pe_int (pa_consC pe_int (pa_consC pe_int pa_nil))))) (pe_callC (ok_law_take W) (hr.mono (by decide)) rfl (W.glo 3 rfl) (passes_call (takes_of rfl rfl rfl rfl) (fun _ _ _ _ h => h)) (pa_cons (pv 1) (pa_consC pe_int pa_nil))) (fun _ _ => rfl)) pe_int) pa_nil))))
    (pss_cons (ps_set (i := 4) nd rfl (Or.inl rfl) (pe_opD op_add pe_int (pe_callC (ok_law_take W) (hr.mono (by decide)) rfl (W.glo 3 rfl) (passes_call (takes_of rfl rfl rfl rfl) (fun _ _ _ _ h => h)) (pa_cons (pv 1) (pa_cons (pe_ifExp (pt_cmpRC op_lt (pe_callB1 call_len_seq (by rfl) (W.free 1 rfl) (by decide +kernel) (pv 3)) pe_int (nomark _)) pe_int pe_int) pa_nil)))))
    (pss_cons (ps_set (i := 5) nd rfl (Or.inl rfl) (pe_callC (ok_law_right W) (hr.mono (by decide)) rfl (W.glo 37 rfl) (passes_call (takes_of rfl rfl rfl rfl) (fun _ _ _ _ h => h)) (pa_cons (pv 3) (pa_cons (pv 4) pa_nil))))
    (pss_cons (ps_if (PW.pt (pw_or (pt_cmpRC op_isN1 (pv 5) pe_non (nomark _)) (pw_or (pt_cmpR op_gt (pe_ixC ix_tup (pe_callC (ok_cheapest W) (hr.mono (by decide)) rfl (W.glo 38 rfl) (passes_call (takes_of rfl rfl rfl rfl) (fun _ _ _ _ h => h)) (pa_cons (pv 3) (pa_cons (pv 4) pa_nil))) pe_int (fun _ _ => rfl)) (pv 5) (nomark _)) (pw_or1 (pt_not (pt_val (pe_callC (ok_law_is_refused W) (hr.mono (by decide)) rfl (W.glo 39 rfl) (passes_call (takes_of rfl rfl rfl rfl) (fun _ _ _ _ h => h)) (pa_cons (pv 1) (pa_cons (pv 3) (pa_cons (pv 4) pa_nil)))))))))) (pss_one (ps_ret pe_bl)) pss_nil)
    (pss_cons (ps_if (PW.pt (pw_and (pt_cmpRC op_lt (pe_callB1 call_len_seq (by rfl) (W.free 1 rfl) (by decide +kernel) (pv 3)) pe_int (nomark _)) (pw_and1 (pt_cmpR op_ne (pe_callC (ok_law_right W) (hr.mono (by decide)) rfl (W.glo 37 rfl) (passes_call (takes_of rfl rfl rfl rfl) (fun _ _ _ _ h => h)) (pa_cons (pe_revL (pv 3)) (pa_cons (pv 4) pa_nil))) (pv 5) (nomark _))))) (pss_one (ps_ret pe_bl)) pss_nil)
    (pss_one (ps_for (passes_of rfl) rfl (pi_range1 (by rfl) (W.free 4 rfl) (pa_consC pe_int pa_nil)) (pg_name (i := 6) nd rfl (Or.inl rfl)) (pss_one (ps_if (pt_cmpR op_lt (pe_callC (ok_law_cost W) (hr.mono (by decide)) rfl (W.glo 24 rfl) (passes_call (takes_of rfl rfl rfl rfl) (fun _ _ _ _ h => h)) (pa_cons (pv 3) (pa_cons (pe_callC (ok_law_side W) (hr.mono (by decide)) rfl (W.glo 40 rfl) (passes_call (takes_of rfl rfl rfl rfl) (fun _ _ _ _ h => h)) (pa_cons (pv 1) (pa_cons (pe_listRg rfl rfl (W.free 0 rfl) (prg_1 rfl (W.free 4 rfl) (pe_callB1 call_len_seq (by rfl) (W.free 1 rfl) (by decide +kernel) (pv 3)))) (pa_cons (pv 4) pa_nil)))) pa_nil))) (pv 5) (nomark _)) (pss_one (ps_ret pe_bl)) pss_nil))))))))))
    (pss_one (ps_ret pe_bl)))))
end
end Lw
namespace Lw
open PySem PySem.Spec PyProof.Rows L2 Rs
/-! ### the head -/
def loose : List PySem.Str := (["__name__", "SortError", "BadRoom", "BadLengths", "BadPaper", "MOST_RUNS", "MOST_LENGTH", "LEAST_WAYS", "MOST_WAYS", "need_lengths", "need_ways", "how_many", "least_runs", "cheapest", "stretches", "cuts_of", "neighbours_of", "plan_of", "neighbours", "paper", "bound", "_law_begun", "_law_take", "_law_alike", "_law_lengths", "_law_plan", "_law_side", "_law_in", "_law_cost", "_law_fits"] : List PySem.Str) ++ (["_law_fewest", "_law_right", "_law_is_refused"] : List PySem.Str)
abbrev R : PySem.W.OpenRow := PySem.W.OpenLaw.row PySem.Challenge.rw_runsorts_k09_whole_neighbours
abbrev hk : PySem.W.Hook := Hx.hookM fs fn
def ob (s : PySem.W.SharedT) : He.AlD := Hx.obsMG fs fn (HandSHeadRun.getT s)
theorem ob_eq (s : PySem.W.SharedT) : ob s = hk.obs s.abs := Hx.obsMG_eq (HandSHeadRun.getT_eq s)
theorem run (w : World) : HandSHeadRun.RunEq R (PySem.W.view R.prog [35]) hk ob 15000 loose w := by
  intro os
  kernel_rfl
/-- a promise that holds whatever may be raised: nothing is -/
theorem calm {P : Program} {w : World} {K : PySem.W.Frag} {mg : Str → Option Value} {base : Heap} {k : Nat} {f : Addr} {fd : FuncData} {ps : List Str} {sp : Sp} (F : FnOk P w K mg base (L2.CX P w) k f fd ps sp) (hE : ∀ vs H Q E, sp vs H Q E → sp vs H Q E0) : FnOk P w K mg base CX0 k f fd ps sp :=
  ⟨F.len, fun A outer s H args us vs Q E hr he hb hv hs => codeAny_mono (F.run A outer s H args us vs Q E0 hr he hb hv (hE _ _ _ _ hs)) fun r s' h => by
    cases r with
    | error e =>
      obtain ⟨_, _, _, _, _, _, _, _, _, _, _, _, hf⟩ := h
      exact hf.elim
    | ok fl => cases fl <;> exact h⟩
end Lw
open PySem PySem.W PySem.Calls PyProof.Rows
theorem PySem.Challenge.cw_runsorts_k09_whole_neighbours_holds : PySem.Challenge.rw_runsorts_k09_whole_neighbours.Holds := by
  w_on; o_law
  refine HandSHeadRun.head_any (r := OpenLaw.row PySem.Challenge.rw_runsorts_k09_whole_neighbours) (q := view (OpenLaw.row PySem.Challenge.rw_runsorts_k09_whole_neighbours).prog [35]) (H := Lw.hk) (ob := Lw.ob) (M := 15000) (loose := Lw.loose) (d := HandSHeadRun.topDef (OpenLaw.row PySem.Challenge.rw_runsorts_k09_whole_neighbours).prog 35) (kwd := []) Lw.ob_eq
    (by kernel_rfl) (fun s => by kernel_rfl) Lw.run (by kernel_rfl) (by kernel_rfl) (by kernel_rfl) (by rfl) (by first | assumption | decide +kernel) (by decide +kernel) ⟨rfl, rfl, rfl, rfl, rfl, by decide +kernel⟩ ?hw ?hc
  case hw => w_witness2
  case hc =>
    refine L2.walk_ofE (l := PySem.Challenge.rw_runsorts_k09_whole_neighbours) (n := 63) (k := 86) (x := "_law_script") (CX := L2.CX0) rfl (by decide) (by kernel_rfl) ⟨rfl, by decide, by decide⟩ ?F (fun _ _ _ _ z => z)
    intro w mg fa h Y G hmg0
    obtain ⟨K, KX, c⟩ := Y
    have hmg : mg ("law" : PySem.Str) = some (.ref fa) := by
      have e : (HandSHeadRun.topDef (OpenLaw.row PySem.Challenge.rw_runsorts_k09_whole_neighbours).prog 35).name = ("law" : PySem.Str) := by kernel_rfl
      rw [← e]
      exact hmg0
    have W : Lw.Wd K mg := ⟨c, h, KX, G⟩
    obtain ⟨fd, F⟩ := c.def_ 23 (d := Lw.d_law) rfl
    have e := hmg.symm.trans (W.glo 41 (x := "law") rfl)
    cases e
    have b := L2.FunD.bindsA (ps := ["_law_script"]) F fun _ _ _ _ _ _ us hl => match us, hl with | [_], _ => rfl
    exact ⟨K, fd, Rs.sp_law K, KX, fun s v => b s [v] rfl, fun H a ns hl _ hS => ⟨a, ns, rfl, hS, hl, fun _ => rfl⟩, fun base _ _ => Lw.calm (Lw.fn_law W F) fun vs H Q E h => h⟩
