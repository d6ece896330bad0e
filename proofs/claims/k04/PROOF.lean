import PyProof.Rows.All
import Wide.All
import OpenK.AllK
import Wide.FinOn
import KE.KStateDown
import Lean
import HandS.ForMost
import HandS.ForExc
import HandS.Flow
import HandS.Wide
import HandS.TupAny
import HandS.Zip
import HandS.IsInst
import HandS.Steps
import HandS.More
import HandS.Conv
import HandS.Deep
import HandS.Walk
import HandS.Defaults
import HandS.Head0
import HandS.Head1
import HandS.Head2
import HandS.HeadEnd
import HandS.HeadHook1
import HandS.HeadHook2
import HandS.SortOrd
import HandS.SortRule
import HandS.Style
import HandS.Ends
import HandS.Words
import HandS.WordsExc
import PySem.Challenge.RW_runsorts_k04_whole_what_runs_are
set_option Elab.async false
set_option linter.all false
set_option maxRecDepth 100000
set_option maxHeartbeats 4000000
/-! rules and words of our own over the hand layer -/
namespace Rs
open PySem PySem.Spec PyProof.Rows L2

/-! ### the readings of operators by short names -/
abbrev xAdd : R2 := rI0 fun i j => .int (i + j)
abbrev xSub : R2 := rI0 fun i j => .int (i - j)
abbrev xMul : R2 := rI CMul fun i j => .int (i * j)
abbrev xDiv : R2 := rI CDivW fun i j => .int (i / j)
abbrev xMod : R2 := rI (fun _ j => 0 < j) fun i j => .int (i % j)
abbrev xPow : R2 := rI CPow fun i j => .int (i ^ j.toNat)
abbrev xAddS : R2 := fun x y H Q => ∃ i j, x = .str i ∧ y = .str j ∧ i.length + j.length ≤ sizeLine ∧ Q (.str (i ++ j)) H
abbrev xNeg : V → Hp → VK → Prop := rU fun i => .int (-i)
abbrev xLt : R2 := rI0 fun i j => .bl (decide (i < j))
abbrev xLe : R2 := rI0 fun i j => .bl (decide (i ≤ j))
abbrev xGt : R2 := rI0 fun i j => .bl (decide (j < i))
abbrev xGe : R2 := rI0 fun i j => .bl (decide (j ≤ i))
abbrev xLtS : R2 := fun x y H Q => ∃ i j, x = .str i ∧ y = .str j ∧ Q (.bl (decide (i.cps.toList < j.cps.toList))) H
abbrev xGtS : R2 := fun x y H Q => ∃ i j, x = .str i ∧ y = .str j ∧ Q (.bl (decide (j.cps.toList < i.cps.toList))) H
/-- two ints, or two texts -/
def xLtV : R2 := fun x y H Q => xLt x y H Q ∨ xLtS x y H Q
def xGtV : R2 := fun x y H Q => xGt x y H Q ∨ xGtS x y H Q
abbrev xLen (K : PySem.W.Frag) : List V → Hp → VK → Prop := fun xs H Q => ∃ p ys, xs = [.ref p] ∧ (SqL K H p ys ∨ SqT K H p ys) ∧ Q (.int ys.length) H
abbrev xLenS : List V → Hp → VK → Prop := fun xs H Q => ∃ z, xs = [.str z] ∧ z.length ≤ sizeLine ∧ Q (.int z.length) H
abbrev xLenD : List V → Hp → VK → Prop := fun xs H Q => ∃ a kvs, xs = [V.ref a] ∧ H a = some (.dK kvs) ∧ Q (.int kvs.length) H
abbrev xInt : List V → Hp → VK → Prop := fun xs H Q => (∃ i, xs = [.int i] ∧ Q (.int i) H) ∨ ∃ k, xs = [.bl k] ∧ Q (.int (if k then 1 else 0)) H
abbrev xIntS : List V → Hp → VK → Prop := fun xs H Q => ∃ a n, xs = [.str a] ∧ PySem.intText? a = some n ∧ a.length ≤ 640 ∧ Q (.int n) H
abbrev xStr : List V → Hp → VK → Prop := fun xs H Q => ∃ i, xs = [.int i] ∧ i.natAbs.log2 < 1920 ∧ Q (.str (toString i)) H
abbrev xList (K : PySem.W.Frag) : List V → Hp → VK → Prop := fun xs H Q => ∃ p ys, xs = [.ref p] ∧ (SqL K H p ys ∨ SqT K H p ys) ∧ ∀ l, H l = none → Q (.ref l) (upd H l (.lst ys))
abbrev xTuple (K : PySem.W.Frag) : List V → Hp → VK → Prop := fun xs H Q => ∃ p ys, xs = [.ref p] ∧ ((SqL K H p ys ∧ ∀ l, H l = none → Q (.ref l) (upd H l (.tup ys))) ∨ (SqT K H p ys ∧ Q (.ref p) H))
abbrev xMax2 : List V → Hp → VK → Prop := fun xs H Q => ∃ i j, xs = [.int i, .int j] ∧ Q (.int (if j > i then j else i)) H
abbrev xMin2 : List V → Hp → VK → Prop := fun xs H Q => ∃ i j, xs = [.int i, .int j] ∧ Q (.int (if j < i then j else i)) H
abbrev xInsert : V → List V → Hp → VK → Prop := fun x vs H Q => ∃ (l : Addr) (xs : List V) (i : Int) (y : V), x = .ref l ∧ vs = [.int i, y] ∧ H l = some (.lst xs) ∧ xs.length < sizeLine ∧ 0 ≤ i ∧ i < 2 ^ 63 ∧ Q .non (upd H l (.lst (xs.take i.toNat ++ [y] ++ xs.drop i.toNat)))
abbrev xJoin (K : PySem.W.Frag) : V → List V → Hp → VK → Prop := fun x xs H Q => ∃ a p, ∃ ys : List Str, x = .str a ∧ xs = [.ref p] ∧ (SqL K H p (ys.map V.str) ∨ SqT K H p (ys.map V.str)) ∧ (ys.map (·.length)).sum + ys.length * a.length ≤ 16777216 ∧ Q (.str (Txt.join a ys)) H
abbrev xSplit : V → List V → Hp → VK → Prop := fun x xs H Q => ∃ a b, x = .str a ∧ xs = [.str b] ∧ (b.length == 0) = false ∧ a.length + 2 ≤ sizeLine ∧ rNewStrs (Txt.split a b) H Q
abbrev rSlTA (K : PySem.W.Frag) : V → Option Int → Option Int → Hp → VK → Prop := rSlA K
/-- == with an empty list on one side -/
def xEqE (K : PySem.W.Frag) : R2 := fun x y H Q => ∃ a b xs ys, x = .ref a ∧ y = .ref b ∧ SqL K H a xs ∧ SqL K H b ys ∧ (xs = [] ∨ ys = []) ∧ Q (.bl (decide (xs.length = ys.length))) H
def xNeE (K : PySem.W.Frag) : R2 := fun x y H Q => ∃ a b xs ys, x = .ref a ∧ y = .ref b ∧ SqL K H a xs ∧ SqL K H b ys ∧ (xs = [] ∨ ys = []) ∧ Q (.bl (!decide (xs.length = ys.length))) H
section
variable {X : Cx}
theorem opx_ltV : OpR X (compareOp .Lt) xLtV := OpR.or op_lt op_lt_str
theorem opx_gtV : OpR X (compareOp .Gt) xGtV := OpR.or op_gt op_gt_str
end
theorem hu64 {A : Around} {k : Nat} (hr : Room k A) : A.units + 64 < cLine := hr.units
theorem hu65 {A : Around} {k : Nat} (hr : Room k A) : A.units + 65 < cLine := by have := hr.un; omega
theorem hu0 {A : Around} {k : Nat} (hr : Room k A) : A.units < cLine := hr.units0

/-! ### constants put in place -/
def tOpC (r : R2) (ta : TE) (v : V) : TE := fun σ H Q => ta σ H fun x H1 => r x v H1 Q
def tOpD (r : R2) (v : V) (tb : TE) : TE := fun σ H Q => tb σ H fun y H1 => r v y H1 Q
def tConsC (v : V) (tr : TA) : TA := fun σ H Q => tr σ H fun xs H1 => Q (v :: xs) H1
def gSubC (to : TE) (i : V) (t : TSet) : TG := fun v σ H Q => to σ H fun o H1 => t o i v H1 fun H3 => Q σ H3
section
variable {X : Cx} {a b e : Expr} {es : List Expr} {r : R2} {ta tb : TE} {t : TA} {v : V} {pos : Pos}
theorem pe_opC {op : Operator} (ho : OpR X (binaryOp op) r) (ha : PE X a ta) (hb : PE X b (tC v)) : PE X (.BinOp a op b pos) (tOpC r ta v) := pe_op ho ha hb
theorem pe_opD {op : Operator} (ho : OpR X (binaryOp op) r) (ha : PE X a (tC v)) (hb : PE X b tb) : PE X (.BinOp a op b pos) (tOpD r v tb) := pe_op ho ha hb
theorem pe_cmpRC {op : CmpOp} (ho : OpR X (compareOp op) r) (ha : PE X a ta) (hb : PE X b (tC v)) (hm : behindInMarks op b = false) : PE X (.Compare a [op] [b] pos) (tOpC r ta v) := pe_cmpR ho ha hb hm
theorem pe_cmpRD {op : CmpOp} (ho : OpR X (compareOp op) r) (ha : PE X a (tC v)) (hb : PE X b tb) (hm : behindInMarks op b = false) : PE X (.Compare a [op] [b] pos) (tOpD r v tb) := pe_cmpR ho ha hb hm
theorem pt_cmpRC {op : CmpOp} (ho : OpR X (compareOp op) r) (ha : PE X a ta) (hb : PE X b (tC v)) (hm : behindInMarks op b = false) : PT X (.Compare a [op] [b] pos) (tTest (tOpC r ta v)) := pt_cmpR ho ha hb hm
theorem pt_cmpRD {op : CmpOp} (ho : OpR X (compareOp op) r) (ha : PE X a (tC v)) (hb : PE X b tb) (hm : behindInMarks op b = false) : PT X (.Compare a [op] [b] pos) (tTest (tOpD r v tb)) := pt_cmpR ho ha hb hm
theorem pe_ixC (hr : IxR X r) (ha : PE X a ta) (hb : PE X b (tC v)) (hs : PlainIx b) : PE X (.Subscript a b pos) (tOpC r ta v) := pe_ix hr ha hb hs
theorem pe_ixD (hr : IxR X r) (ha : PE X a (tC v)) (hb : PE X b tb) (hs : PlainIx b) : PE X (.Subscript a b pos) (tOpD r v tb) := pe_ix hr ha hb hs
theorem pa_consC (he : PE X e (tC v)) (hr : PA X es t) (h : starEach (e :: es) X.env = (false, eval e X.env) :: starEach es X.env := by rfl) : PA X (e :: es) (tConsC v t) := pa_cons he hr h
theorem pe_unN {i : Int} (ha : PE X a (tC (.int i))) : PE X (.UnaryOp .USub a pos) (tC (.int (-i))) := by
  refine ⟨fun pins s σ H Q I h => (pe_un un_neg ha).run pins s σ H Q I ?_⟩
  exact ⟨i, rfl, h⟩
theorem pg_subC {t : TSet} (ho : PE X a ta) (hi : PE X b (tC v)) (hs : PSet X t) (ha : ∀ v, assign (.Subscript a b pos) X.env v = (do
      let ov ← holding [v] (eval a X.env)
      let iv ← holding [v, ov] (eval b X.env)
      standAt pos
      holding [v, ov, iv] (setItem ov iv v)
      release [v, ov, iv] []) := by intro _; rfl) : PG X (.Subscript a b pos) (gSubC ta v t) := pg_sub ho hi hs ha
end
/-! ### == with an empty list -/
section
variable {X : Cx}
theorem two_lists {pins : List (Addr × Obj)} {σ : L2.St} {H : Hp} {s : Shared} {a b : Addr} {xs ys : List V} (I : Inv X pins σ H s) (h1 : SqL X.K H a xs) (h2 : SqL X.K H b ys) :
    ∃ i1 i2 : List Value, s.heap.IsList a i1.toArray ∧ s.heap.IsList b i2.toArray ∧ xs.length = i1.length ∧ ys.length = i2.length := by
  obtain ⟨i1, r1, ⟨o, n, ho, hc, _, hd⟩, _⟩ := I.list h1
  obtain ⟨i2, r2, ⟨o2, n2, ho2, hc2, _, hd2⟩, _⟩ := I.list h2
  exact ⟨i1, i2, ⟨o, ho, hc, n, hd⟩, ⟨o2, ho2, hc2, n2, hd2⟩, r1.length, r2.length⟩
theorem opx_eqE (hu : X.A.units + 1 < cLine) : OpR X (compareOp .Eq) (xEqE X.K) := by
  intro pins s σ H x y v u Q I rx ry h
  obtain ⟨a, b, xs, ys, rfl, rfl, h1, h2, he, q⟩ := h
  cases rx
  cases ry
  obtain ⟨i1, i2, p1, p2, l1, l2⟩ := two_lists I h1 h2
  show wpAny (model X.prog X.w) X.A (richCompare .Eq (.ref a) (.ref b)) _ _ s
  by_cases e : xs.length = ys.length
  · rw [decide_eq_true e] at q
    have z : i1 = [] ∧ i2 = [] := by
      constructor <;> apply List.eq_nil_of_length_eq_zero <;> rcases he with he | he <;> subst he <;> simp at e l1 l2 <;> simp_all
    obtain ⟨z1, z2⟩ := z
    subst z1
    subst z2
    exact SeqAt.RcAt.lists (e := fun _ => true) p1 p2 rfl (by omega) (fun j h _ => absurd h (by simp)) _ _ _ _ ⟨.bl true, H, I, rfl, q⟩
  · rw [decide_eq_false e] at q
    exact SeqAt.RcAt.lists_lengths p1 p2 (by rw [List.size_toArray, List.size_toArray, ← l1, ← l2]; simpa using e) (by omega) _ _ _ _ ⟨.bl false, H, I, rfl, q⟩
theorem opx_neE (hu : X.A.units + 1 < cLine) : OpR X (compareOp .NotEq) (xNeE X.K) := by
  intro pins s σ H x y v u Q I rx ry h
  obtain ⟨a, b, xs, ys, rfl, rfl, h1, h2, he, q⟩ := h
  cases rx
  cases ry
  obtain ⟨i1, i2, p1, p2, l1, l2⟩ := two_lists I h1 h2
  show wpAny (model X.prog X.w) X.A (richCompare .NotEq (.ref a) (.ref b)) _ _ s
  by_cases e : xs.length = ys.length
  · rw [decide_eq_true e] at q
    have z : i1 = [] ∧ i2 = [] := by
      constructor <;> apply List.eq_nil_of_length_eq_zero <;> rcases he with he | he <;> subst he <;> simp at e l1 l2 <;> simp_all
    obtain ⟨z1, z2⟩ := z
    subst z1
    subst z2
    exact SeqAt.RcNeAt.lists (e := fun _ => true) p1 p2 rfl (by omega) (fun j h _ => absurd h (by simp)) _ _ _ _ ⟨.bl false, H, I, rfl, q⟩
  · rw [decide_eq_false e] at q
    exact SeqAt.RcNeAt.lists_lengths p1 p2 (by rw [List.size_toArray, List.size_toArray, ← l1, ← l2]; simpa using e) (by omega) _ _ _ _ ⟨.bl true, H, I, rfl, q⟩
end

/-! ### constants of the module, classes as values -/
section
variable {X : Cx} {x : Str} {pos : Pos}
theorem pe_gint {i : Int} (hg : Gl X x) (hm : ∃ t, X.mg x = some (.int i t)) (hd : (x == ("__debug__" : Str)) = false := by decide) : PE X (.Name x pos) (tC (.int i)) := by
  obtain ⟨t, e⟩ := hm
  exact pe_glob hg e ⟨t, rfl⟩ hd
theorem pe_gstr {z : Str} (hg : Gl X x) (hm : ∃ t, X.mg x = some (.str z t)) (hd : (x == ("__debug__" : Str)) = false := by decide) : PE X (.Name x pos) (tC (.str z)) := by
  obtain ⟨t, e⟩ := hm
  exact pe_glob hg e ⟨t, rfl⟩ hd
/-- isinstance(a, c), c a built-in class by its name -/
def tIsi (K : PySem.W.Frag) (c : String) (ta : TE) : TE := fun σ H Q => ta σ H fun x H1 => rIsi K [x, .ty c] H1 Q
theorem pe_isi {a b : Expr} {c : String} {ta : TE} {p pos : Pos} (hg : Gl X "isinstance") (hm : X.mg "isinstance" = none) (ha : PE X a ta) (hb : PE X b (tC (.ty c)))
    (e1 : starEach [a, b] X.env = (false, eval a X.env) :: starEach [b] X.env := by rfl) (e3 : starEach [b] X.env = (false, eval b X.env) :: starEach [] X.env := by rfl) (e2 : (backTo pos (starEach [b] X.env)).any (·.1) = false := by rfl) :
    PE X (.Call (.Name "isinstance" p) [a, b] [] pos) (tIsi X.K c ta) := pe_callB call_isi hg hm (by decide +kernel) (pa_cons ha (pa_cons hb pa_nil e3) e1) (by decide) (by decide) e1 e2
/-- a built-in called with one argument -/
def tCB1 (r : List V → Hp → VK → Prop) (ta : TE) : TE := fun σ H Q => ta σ H fun x H1 => r [x] H1 Q
theorem pe_callB1 {a : Expr} {ta : TE} {r : List V → Hp → VK → Prop} {id : String} {p : Pos} (hc : CallR X (.builtin id) r) (hg : Gl X x) (hm : X.mg x = none) (hv : bootBuiltins x = some (.builtin id)) (ha : PE X a ta) (hn : x ≠ "__name__" := by decide) (hd : (x == ("__debug__" : Str)) = false := by decide)
    (e1 : starEach [a] X.env = (false, eval a X.env) :: starEach [] X.env := by rfl) : PE X (.Call (.Name x p) [a] [] pos) (tCB1 r ta) := pe_callB hc hg hm hv (pa_cons ha pa_nil e1) hn hd e1 rfl
theorem pe_callTy1 {a : Expr} {ta : TE} {r : List V → Hp → VK → Prop} {T : String} {p : Pos} (hc : CallR X (.type T) r) (hg : Gl X x) (hm : X.mg x = none) (hv : bootBuiltins x = some (.type T)) (ha : PE X a ta) (hn : x ≠ "__name__" := by decide) (hd : (x == ("__debug__" : Str)) = false := by decide)
    (e1 : starEach [a] X.env = (false, eval a X.env) :: starEach [] X.env := by rfl) : PE X (.Call (.Name x p) [a] [] pos) (tCB1 r ta) := pe_callTy hc hg hm hv (pa_cons ha pa_nil e1) hn hd e1 rfl
theorem isi_go {K : PySem.W.Frag} {c t : String} {x : V} {H : Hp} {Q : VK} {b : Bool} (ty : TyX K H x (.type t)) (h : kitB t c = some b) (q : Q (.bl b) H) : rIsi K [x, .ty c] H Q :=
  ⟨x, .ty c, _, _, b, rfl, .ty c, ty, kit_ty h, q⟩
end

/-! ### len(set(a list of ints)), list(range(n)) -/
section
variable {X : Cx}
/-- how many unlike ones -/
def dcount (ns : List Int) : Nat := (PyProof.Rows.firstMet (fun i => ns.getD i 0) ns.length).length
theorem dcount_nodup {ns : List Int} (h : ns.Nodup) : dcount ns = ns.length := by
  unfold dcount
  rw [RZ.firstMet_nodup h ns.length (Nat.le_refl _), List.take_length]
def tLenSetX (K : PySem.W.Frag) (ta : TE) : TE := fun σ H Q => ta σ H fun x H1 => ∃ (l : Addr) (ns : List Int), x = .ref l ∧ SqL K H1 l (ns.map V.int) ∧ ns.length ≤ 4000 ∧ Q (.int (dcount ns : Nat)) H1
theorem pe_lenSetX {a : Expr} {ta : TE} {p p2 q pos : Pos} (hg : Gl X "len") (hm : X.mg "len" = none) (hg2 : Gl X "set") (hm2 : X.mg "set" = none) (ha : PE X a ta) (hc : X.calm = true := by rfl)
    (na : starEach [a] X.env = (false, eval a X.env) :: starEach [] X.env := by rfl) : PE X (.Call (.Name "len" p) [.Call (.Name "set" p2) [a] [] q] [] pos) (tLenSetX X.K ta) := by
  refine ⟨fun pins s σ H Q I h => ?_⟩
  refine Call_ (ld_blt I hg hm boot_len ?_)
  refine PyProof.Rows.callWith_builtin1 (PyProof.Rows.args_cons ?_ rfl) rfl rfl
  refine Call_ (ld_blt I hg2 hm2 PyProof.Rows.boot_set ?_)
  refine PyProof.Rows.callWith_type1 (PyProof.Rows.args_cons (thn (ha.run pins s σ H _ I h) fun v s1 ⟨x, H1, I1, r1, q1⟩ => PyProof.Rows.args_nil ?_) na) na rfl
  obtain ⟨l, ns, rfl, hq, hl, q1⟩ := q1
  cases r1
  obtain ⟨its, r, pl, hz⟩ := I1.list hq
  have hlen : its.toArray.size = ns.length := by rw [List.size_toArray, ← r.length, List.length_map]
  refine call_set_list (I1.ok.hd hc) pl.isList (by simpa using RZ.intsAre_vals r) (by rw [hlen]; unfold scanBound; omega) fun h' tk hS hk => ?_
  refine PyProof.Rows.args_nil ?_
  rw [hlen] at hS
  obtain ⟨o, es, ep, t, ho, hex, hd, _, _, _, hf, hn⟩ := hS
  have I2 : Inv X pins σ H1 { s1 with heap := h', toks := tk } := I1.kept fun b o e => hk b o (Heap.lt_size e) e
  have hle : dcount ns ≤ ns.length := PyProof.Rows.firstMet_length_le _ _
  have hn' : es.size = dcount ns := hn
  exact call_len_set ho hex hd hf (by rw [hn'] <;> omega) ⟨.int (dcount ns : Nat), H1, I2.tok _, ⟨_, by rw [hn'] <;> rfl⟩, q1⟩
end

/-! ### fields of instances -/
def rFld (K : PySem.W.Frag) (f : Str) (x : V) (H1 : Hp) (Q : VK) : Prop := ∃ a C dx fs v, x = .ref a ∧ H1 a = some (.ins C dx fs) ∧ Cls K C ∧ NoAttr K C f ∧ fs.lookup f = some v ∧ Q v H1
def tFl (K : PySem.W.Frag) (ta : TE) (f : Str) : TE := fun σ H Q => ta σ H fun x H1 => rFld K f x H1 Q
theorem pe_fl {X : Cx} {o : Expr} {ta : TE} {f : Str} {pos : Pos} (he : PE X o ta) (hb : attributeBase o f X.env (eval o X.env) = eval o X.env) : PE X (.Attribute o f pos) (tFl X.K ta f) := pe_fld he hb
def rSFl (K : PySem.W.Frag) (f : Str) (x y : V) (D : Ends) (σ : L2.St) (H2 : Hp) : Prop := ∃ a C dx fs, x = .ref a ∧ H2 a = some (.ins C dx fs) ∧ Cls K C ∧ NoAttr K C f ∧ fs.length < 1000 ∧ D.nx σ (upd H2 a (.ins C dx (putF f y fs)))
def sFl (K : PySem.W.Frag) (ta tv : TE) (f : Str) : TS := fun D σ H => tv σ H fun y H1 => ta σ H1 fun x H2 => rSFl K f x y D σ H2
theorem ps_fl {X : Cx} {o e : Expr} {ta tv : TE} {f : Str} {p pos : Pos} (he : PE X o ta) (hv : PE X e tv) (hb : swapsWith e (some (.Attribute o f p)) pos.line X.env = pure false) : PS X (.Assign [.Attribute o f p] e pos) (sFl X.K ta tv f) := ps_fld he hv hb
theorem lk_hd {a : Str} {x : V} {r : List (Str × V)} : ((a, x) :: r).lookup a = some x := by simp [List.lookup]
theorem lk_tl {a b : Str} {x : V} {r : List (Str × V)} (h : ¬ b = a) : ((a, x) :: r).lookup b = r.lookup b := by
  have e : (b == a) = false := by simpa using h
  simp [List.lookup, e]
theorem lk_nil {b : Str} : ([] : List (Str × V)).lookup b = none := rfl
theorem put_nil {a : Str} {v : V} : putF a v [] = [(a, v)] := rfl
theorem put_hd {a : Str} {x v : V} {r : List (Str × V)} : putF a v ((a, x) :: r) = (a, v) :: r := by
  show (if a = a then _ else _) = _
  rw [if_pos rfl]
theorem put_tl {a b : Str} {x v : V} {r : List (Str × V)} (h : ¬ a = b) : putF b v ((a, x) :: r) = (a, x) :: putF b v r := by
  show (if a = b then _ else _) = _
  rw [if_neg h]

/-! ### a def by what it can: its function object is left out -/
/-- the def at the place at (of the module's names) keeps the promise sp, by at most level k; exceptions may leave it -/
def Can (P : Program) (w : World) (K : PySem.W.Frag) (mg : Str → Option Value) (base : Heap) (k : Nat) (at_ : Str × Option Str) (ps : List Str) (sp : Sp) : Prop :=
  ∃ fd, FnOk P w K mg base (L2.CX P w) k (He.fAd K at_) fd ps sp ∧ Binds K fd ps [] ∧ PySem.W.keepIn K (.ref (He.fAd K at_)) = true
section
variable {P : Program} {w : World} {K : PySem.W.Frag} {mg : Str → Option Value} {base : Heap} {k : Nat} {at_ : Str × Option Str} {ps : List Str} {sp sp' : Sp}
theorem Can.mono {j : Nat} (F : Can P w K mg base j at_ ps sp) (h : j ≤ k) : Can P w K mg base k at_ ps sp := by
  obtain ⟨fd, F, b, kp⟩ := F
  exact ⟨fd, F.mono h, b, kp⟩
theorem Can.imp (F : Can P w K mg base k at_ ps sp) (h : ∀ vs H Q E, sp' vs H Q E → sp vs H Q E) : Can P w K mg base k at_ ps sp' := by
  obtain ⟨fd, F, b, kp⟩ := F
  exact ⟨fd, F.imp h, b, kp⟩
/-- tuples never change -/
def TupLe (H H' : Hp) : Prop := ∀ a xs, H a = some (.tup xs) → H' a = some (.tup xs)
theorem TupLe.refl (H : Hp) : TupLe H H := fun _ _ h => h
theorem TupLe.trans {H H1 H2 : Hp} (a : TupLe H H1) (b : TupLe H1 H2) : TupLe H H2 := fun x o h => b x o (a x o h)
theorem TupLe.same {H H' : Hp} (a : Same H H') : TupLe H H' := fun x o h => a x _ h
theorem TupLe.put {H H' : Hp} {p : Addr} {o : HO} (a : TupLe H H') (h : ∀ xs, H' p ≠ some (.tup xs)) : TupLe H (upd H' p o) := fun x xs e => by
  have e2 := a x xs e
  rw [upd_ne (fun z => by rw [z] at e2; exact h xs e2)]
  exact e2
/-- every promise may be had with: the tuples stand -/
def withTup (sp : Sp) : Sp := fun vs H Q E => sp vs H (fun v H' => TupLe H H' → Q v H') E
theorem Can.tups (F : Can P w K mg base k at_ ps sp) : Can P w K mg base k at_ ps (withTup sp) := by
  obtain ⟨fd, F, b, kp⟩ := F
  refine ⟨fd, ⟨fun vs H Q E h => F.len vs H _ E h, fun A outer s H args us vs Q E hr he hb hv hs => ?_⟩, b, kp⟩
  refine codeAny_mono (F.run A outer s H args us vs _ E hr he hb hv hs) fun r s' h => ?_
  cases r with
  | error e => exact h
  | ok fl =>
    cases fl with
    | ret u =>
      obtain ⟨v, H', os, bare, un, hok, rv, q⟩ := h
      exact ⟨v, H', os, bare, un, hok, rv, q un.tups⟩
    | next => exact h
    | brk => exact h
    | cont => exact h
end
section
variable {X : Cx} {k : Nat} {x C m : Str} {ps : List Str} {sp : Sp} {E : XK} {p pos apos : Pos} {e o : Expr} {es : List Expr} {ta : TE} {t : TA} {M : Option Str}
theorem pe_callC (F : Can X.prog X.w X.K X.mg X.base k (x, none) ps sp) (hr : Room k X.A) (hg : Gl X x) (hm : X.mg x = some (.ref (He.ga X.K x))) (hx : Passes (L2.CX X.prog X.w) X E)
    (ha : PA X (e :: es) t) (hdb : (x == ("__debug__" : Str)) = false := by decide) (he : starEach (e :: es) X.env = (false, eval e X.env) :: starEach es X.env := by rfl) (hpl : (backTo pos (starEach es X.env)).any (·.1) = false := by rfl) :
    PE X (.Call (.Name x p) (e :: es) [] pos) (tCall sp [] E t) := by
  obtain ⟨fd, F, b, kp⟩ := F
  exact pe_call F hr hg hm kp b .nil hx ha hdb he hpl
theorem pe_callC0 (F : Can X.prog X.w X.K X.mg X.base k (x, none) ps sp) (hr : Room k X.A) (hg : Gl X x) (hm : X.mg x = some (.ref (He.ga X.K x))) (hx : Passes (L2.CX X.prog X.w) X E)
    (hdb : (x == ("__debug__" : Str)) = false := by decide) : PE X (.Call (.Name x p) [] [] pos) (tCall sp [] E tNil) := by
  obtain ⟨fd, F, b, kp⟩ := F
  exact pe_call0 F hr hg hm kp b .nil hx hdb
theorem pe_methC {pl : Sem Bool} (he : PE X o ta) (c : Cls X.K (He.ga X.K C)) (hm : Meth X.K (He.ga X.K C) m (He.ma X.K (He.ga X.K C) m)) (F : Can X.prog X.w X.K X.mg X.base k (C, some m) ps sp) (hr : Room k X.A) (hx : Passes (L2.CX X.prog X.w) X E) (ha : PA X (e :: es) t)
    (hst : starEach (e :: es) X.env = (false, eval e X.env) :: starEach es X.env := by rfl) (hpl : (backTo pos (starEach es X.env)).any (·.1) = false := by rfl)
    (ht : eval (.Call (.Attribute o m apos) (e :: es) [] pos) X.env = (do
      let ov ← eval o X.env
      standAt apos.atName
      let (f, first) ← holding [ov] (getMethod ov m pl)
      callWith pos f first (backTo pos (starEach (e :: es) X.env)) (backToKw pos (keywordEach [] X.env))) := by rfl) :
    PE X (.Call (.Attribute o m apos) (e :: es) [] pos) (tMeth (He.ga X.K C) m sp [] E ta t) := by
  obtain ⟨fd, F, b, kp⟩ := F
  exact pe_meth he c hm F hr b .nil hx ha hst hpl ht
theorem pe_methC0 {pl : Sem Bool} (he : PE X o ta) (c : Cls X.K (He.ga X.K C)) (hm : Meth X.K (He.ga X.K C) m (He.ma X.K (He.ga X.K C) m)) (F : Can X.prog X.w X.K X.mg X.base k (C, some m) ps sp) (hr : Room k X.A) (hx : Passes (L2.CX X.prog X.w) X E)
    (ht : eval (.Call (.Attribute o m apos) [] [] pos) X.env = (do
      let ov ← eval o X.env
      standAt apos.atName
      let (f, first) ← holding [ov] (getMethod ov m pl)
      callWith pos f first (backTo pos (starEach [] X.env)) (backToKw pos (keywordEach [] X.env))) := by rfl) :
    PE X (.Call (.Attribute o m apos) [] [] pos) (tMeth (He.ga X.K C) m sp [] E ta tNil) := by
  obtain ⟨fd, F, b, kp⟩ := F
  exact pe_meth0 he c hm F hr b .nil hx ht
theorem pe_makeC (M : Mk X.K (He.ga X.K C) (He.ma X.K (He.ga X.K C) "__init__")) (F : Can X.prog X.w X.K X.mg X.base k (C, some "__init__") ps sp) (hr : Room (k + 1) X.A) (hg : Gl X C) (hm : X.mg C = some (.ref (He.ga X.K C))) (hx : Passes (L2.CX X.prog X.w) X E)
    (ha : PA X (e :: es) t) (hdb : (C == ("__debug__" : Str)) = false := by decide) (he : starEach (e :: es) X.env = (false, eval e X.env) :: starEach es X.env := by rfl) (hpl : (backTo pos (starEach es X.env)).any (·.1) = false := by rfl) :
    PE X (.Call (.Name C p) (e :: es) [] pos) (tMake (He.ga X.K C) sp [] E t) := by
  obtain ⟨fd, F, b, kp⟩ := F
  exact pe_make M F hr hg hm b .nil hx ha hdb he hpl
theorem pe_makeC0 (M : Mk X.K (He.ga X.K C) (He.ma X.K (He.ga X.K C) "__init__")) (F : Can X.prog X.w X.K X.mg X.base k (C, some "__init__") ps sp) (hr : Room (k + 1) X.A) (hg : Gl X C) (hm : X.mg C = some (.ref (He.ga X.K C))) (hx : Passes (L2.CX X.prog X.w) X E)
    (hdb : (C == ("__debug__" : Str)) = false := by decide) : PE X (.Call (.Name C p) [] [] pos) (tMake (He.ga X.K C) sp [] E tNil) := by
  obtain ⟨fd, F, b, kp⟩ := F
  exact pe_make0 M F hr hg hm b .nil hx hdb
end
/-- a def's body by its reading: from where it stands to what it can -/
theorem can_of {P : Program} {w : World} {K : PySem.W.Frag} {mg : Str → Option Value} {base : Heap} {k : Nat} {x qual : Str} {at_ : Str × Option Str} {params : Arguments} {body : List Stmt} {scope : Scope} {N ps : List Str} {sp : Sp} {fd : FuncData}
    (F : FunD K x qual params body scope [] [] (He.fAd K at_) fd) (b : Binds K fd ps []) (S : FnScope N ps scope) (len : ∀ vs H Q E, sp vs H Q E → vs.length = ps.length)
    (t : XK → TS) (h : ∀ (cdv : Value) (A : Around) (outer : List Env) (s : Shared) (H : Hp) (E : XK), Room k (A.deeper (envOfC qual scope s.heap.objs.size (He.fAd K at_) cdv)) →
      PSs (cxOf (L2.CX P w) P w K mg base N qual scope (He.fAd K at_) cdv A outer s H E) body (t E))
    (pure_ : ∀ vs H Q E, sp vs H Q E → t E { nx := fun _ H' => Q .non H', rt := Q } (start N vs) H) : Can P w K mg base (k + 1) at_ ps sp :=
  ⟨fd, F.ok S len fun cdv A outer s H vs Q E hr hsp => ⟨t E, h cdv A outer s H E hr, pure_ vs H Q E hsp⟩, b, F.kp⟩

theorem can_false {P : Program} {w : World} {K : PySem.W.Frag} {mg : Str → Option Value} {base : Heap} {k : Nat} {x qual : Str} {at_ : Str × Option Str} {params : Arguments} {body : List Stmt} {scope : Scope} {ps : List Str} {sp : Sp} {fd : FuncData}
    (F : FunD K x qual params body scope [] [] (He.fAd K at_) fd) (b : Binds K fd ps []) (h : ∀ vs H Q E, ¬ sp vs H Q E) : Can P w K mg base k at_ ps sp :=
  ⟨fd, ⟨fun vs H Q E q => (h vs H Q E q).elim, fun A outer s H args us vs Q E hr he hb hv hs => (h vs H Q E hs).elim⟩, b, F.kp⟩
/-- a def that calls itself: sp 0 is never asked -/
theorem can_rec {P : Program} {w : World} {K : PySem.W.Frag} {mg : Str → Option Value} {base : Heap} {lev : Nat} {x qual : Str} {at_ : Str × Option Str} {params : Arguments} {body : List Stmt} {scope : Scope} {N ps : List Str} {sp : Nat → Sp} {fd : FuncData}
    (F : FunD K x qual params body scope [] [] (He.fAd K at_) fd) (b : Binds K fd ps []) (S : FnScope N ps scope) (len : ∀ d vs H Q E, sp d vs H Q E → vs.length = ps.length) (no : ∀ vs H Q E, ¬ sp 0 vs H Q E)
    (t : Sp → XK → TS) (h : ∀ (d : Nat), Can P w K mg base (lev + d) at_ ps (sp d) → ∀ (cdv : Value) (A : Around) (outer : List Env) (s : Shared) (H : Hp) (E : XK), Room (lev + d) (A.deeper (envOfC qual scope s.heap.objs.size (He.fAd K at_) cdv)) →
      PSs (cxOf (L2.CX P w) P w K mg base N qual scope (He.fAd K at_) cdv A outer s H E) body (t (sp d) E))
    (pure_ : ∀ d vs H Q E, sp (d + 1) vs H Q E → t (sp d) E { nx := fun _ H' => Q .non H', rt := Q } (start N vs) H) : ∀ d, Can P w K mg base (lev + d) at_ ps (sp d)
  | 0 => can_false F b no
  | d + 1 => can_of F b S (len (d + 1)) (t (sp d)) (h d (can_rec F b S len no t h pure_ d)) (pure_ d)

end Rs

/-! data: rows, (number, row), orders, lists of these; what stays -/
namespace Rs
open PySem PySem.Spec PyProof.Rows L2
/-! ### two lists, one beside the other -/
section
variable {α β : Type} {F G : α → β → Prop}
theorem P2.get : ∀ {l : List α} {m : List β}, Paired F l m → ∀ {i : Nat} {a : α}, l[i]? = some a → ∃ b, m[i]? = some b ∧ F a b
  | _, _, .nil, _, _, e => by simp at e
  | _, _, .cons h t, 0, a, e => by simp at e; subst e; exact ⟨_, rfl, h⟩
  | _, _, .cons h t, i + 1, a, e => by simpa using P2.get t (i := i) (by simpa using e)
theorem P2.get' : ∀ {l : List α} {m : List β}, Paired F l m → ∀ {i : Nat} {b : β}, m[i]? = some b → ∃ a, l[i]? = some a ∧ F a b
  | _, _, .nil, _, _, e => by simp at e
  | _, _, .cons h t, 0, a, e => by simp at e; subst e; exact ⟨_, rfl, h⟩
  | _, _, .cons h t, i + 1, a, e => by simpa using P2.get' t (i := i) (by simpa using e)
theorem P2.mono (f : ∀ a b, F a b → G a b) : ∀ {l : List α} {m : List β}, Paired F l m → Paired G l m
  | _, _, .nil => .nil
  | _, _, .cons h t => .cons (f _ _ h) (P2.mono f t)
theorem P2.app : ∀ {l l' : List α} {m m' : List β}, Paired F l m → Paired F l' m' → Paired F (l ++ l') (m ++ m')
  | _, _, _, _, .nil, q => q
  | _, _, _, _, .cons h t, q => .cons h (P2.app t q)
theorem P2.one {a : α} {b : β} (h : F a b) : Paired F [a] [b] := .cons h .nil
theorem P2.take : ∀ (n : Nat) {l : List α} {m : List β}, Paired F l m → Paired F (l.take n) (m.take n)
  | 0, _, _, _ => .nil
  | _ + 1, _, _, .nil => .nil
  | n + 1, _, _, .cons h t => .cons h (P2.take n t)
theorem P2.drop : ∀ (n : Nat) {l : List α} {m : List β}, Paired F l m → Paired F (l.drop n) (m.drop n)
  | 0, _, _, q => q
  | _ + 1, _, _, .nil => .nil
  | n + 1, _, _, .cons h t => P2.drop n t
theorem P2.set {a : α} {b : β} (h : F a b) : ∀ (n : Nat) {l : List α} {m : List β}, Paired F l m → Paired F (l.set n a) (m.set n b)
  | _, _, _, .nil => .nil
  | 0, _, _, .cons _ t => .cons h t
  | n + 1, _, _, .cons q t => .cons q (P2.set h n t)
theorem P2.erase : ∀ (n : Nat) {l : List α} {m : List β}, Paired F l m → Paired F (l.eraseIdx n) (m.eraseIdx n)
  | _, _, _, .nil => .nil
  | 0, _, _, .cons _ t => t
  | n + 1, _, _, .cons q t => .cons q (P2.erase n t)
theorem P2.map {γ : Type} {f : γ → α} {g : γ → β} : ∀ (l : List γ), (∀ x ∈ l, F (f x) (g x)) → Paired F (l.map f) (l.map g)
  | [], _ => .nil
  | x :: l, h => .cons (h x (List.mem_cons_self ..)) (P2.map l fun y hy => h y (List.mem_cons_of_mem _ hy))
theorem P2.last {l : List α} {m : List β} {a : α} {b : β} (h : Paired F (l ++ [a]) (m ++ [b])) : F a b := by
  have e : (l ++ [a]).length = (m ++ [b]).length := h.length
  simp at e
  obtain ⟨b', h1, h2⟩ := P2.get h (i := l.length) (a := a) (by simp)
  rw [e] at h1
  simp at h1
  rw [h1]
  exact h2
end
theorem drop_cons {α : Type} : ∀ {l : List α} {i : Nat} {x : α}, l[i]? = some x → l.drop i = x :: l.drop (i + 1)
  | [], _, _, h => by simp at h
  | a :: l, 0, x, h => by simp at h; subst h; rfl
  | a :: l, i + 1, x, h => by simpa using drop_cons (l := l) (i := i) (by simpa using h)
/-! ### what stands at a value -/
abbrev Rel (α : Type) := Hp → V → α → Prop
/-- a relation that leans on tuples alone -/
def Stable {α : Type} (R : Rel α) : Prop := ∀ (H H' : Hp) (v : V) (x : α), TupLe H H' → R H v x → R H' v x
def IsTp (H : Hp) (v : V) (xs : List V) : Prop := ∃ a, v = .ref a ∧ H a = some (.tup xs)
theorem IsTp.mono {H H' : Hp} {v : V} {xs : List V} (t : TupLe H H') (h : IsTp H v xs) : IsTp H' v xs := let ⟨a, e, q⟩ := h; ⟨a, e, t a xs q⟩
abbrev Row := List Key
abbrev Pr := Int × Row
abbrev Ord := List (Nat × Bool)
def wayS (b : Bool) : Str := if b = true then "up" else "down"
def RowAt : Rel Row := fun H v r => IsTp H v (r.map kV)
def PairAt : Rel Pr := fun H v p => ∃ w, IsTp H v [.int p.1, w] ∧ RowAt H w p.2
def TurnAt : Rel (Nat × Bool) := fun H v t => IsTp H v [.int (t.1 : Int), .str (wayS t.2)]
def IntAt : Rel Int := fun _ v i => v = .int i
def KeyAt : Rel Key := fun _ v i => v = kV i
theorem RowAt.st : Stable RowAt := fun _ _ _ _ t h => IsTp.mono t h
theorem PairAt.st : Stable PairAt := fun _ _ _ _ t ⟨w, a, b⟩ => ⟨w, a.mono t, b.mono t⟩
theorem TurnAt.st : Stable TurnAt := fun _ _ _ _ t h => IsTp.mono t h
theorem IntAt.st : Stable IntAt := fun _ _ _ _ _ h => h
theorem KeyAt.st : Stable KeyAt := fun _ _ _ _ _ h => h
/-- a list at l whose items are the xs -/
def Lst {α : Type} (R : Rel α) (H : Hp) (l : Addr) (xs : List α) : Prop := ∃ vs, H l = some (.lst vs) ∧ Paired (R H) vs xs
def LstV {α : Type} (R : Rel α) : Rel (List α) := fun H v xs => ∃ l, v = .ref l ∧ Lst R H l xs
section
variable {α : Type} {R : Rel α} {H H' : Hp} {l : Addr} {xs : List α}
theorem Lst.len (h : Lst R H l xs) : ∃ vs, H l = some (.lst vs) ∧ vs.length = xs.length := let ⟨vs, a, b⟩ := h; ⟨vs, a, b.length⟩
theorem Paired.tl (s : Stable R) (t : TupLe H H') {vs : List V} (h : Paired (R H) vs xs) : Paired (R H') vs xs := P2.mono (fun v x q => s H H' v x t q) h
/-- the list stands, and tuples -/
theorem Lst.keep (s : Stable R) (t : TupLe H H') (h : Lst R H l xs) (e : ∀ o, H l = some o → H' l = some o) : Lst R H' l xs := let ⟨vs, a, b⟩ := h; ⟨vs, e _ a, Paired.tl s t b⟩
theorem Lst.same (s : Stable R) (k : Same H H') (h : Lst R H l xs) : Lst R H' l xs := h.keep s (TupLe.same k) fun o => k l o
theorem LstV.same (s : Stable R) (k : Same H H') {v : V} (h : LstV R H v xs) : LstV R H' v xs := let ⟨l, e, q⟩ := h; ⟨l, e, q.same s k⟩
end
/-! ### heaps: a new object, a changed one -/
theorem Same.new {H : Hp} {p : Addr} {o : HO} (h : H p = none) : Same H (upd H p o) := fun a u e => by
  rw [upd_ne (ne_of_none e h)]
  exact e
theorem Same.mut {H H' : Hp} {p : Addr} {o : HO} (e : Same H H') (h : H p = none) : Same H (upd H' p o) := fun a u ha => by
  rw [upd_ne (ne_of_none ha h)]
  exact e a u ha
theorem TupLe.new {H : Hp} {p : Addr} {o : HO} (h : H p = none) : TupLe H (upd H p o) := TupLe.same (Same.new h)
theorem TupLe.list {H H' : Hp} {p : Addr} {o : HO} {vs : List V} (a : TupLe H H') (h : H' p = some (.lst vs)) : TupLe H (upd H' p o) := a.put fun xs e => by rw [h] at e; cases e
/-- all but the objects at the addresses of S stand -/
def But (S : List Addr) (H H' : Hp) : Prop := ∀ b o, H b = some o → b ∉ S → H' b = some o
theorem But.refl (S : List Addr) (H : Hp) : But S H H := fun _ _ h _ => h
theorem But.trans {S : List Addr} {H H1 H2 : Hp} (a : But S H H1) (b : But S H1 H2) : But S H H2 := fun c o h n => b c o (a c o h n) n
theorem But.same {S : List Addr} {H H1 : Hp} (a : Same H H1) : But S H H1 := fun c o h _ => a c o h
theorem But.new {S : List Addr} {H H1 : Hp} {p : Addr} {o : HO} (a : But S H H1) (h : H1 p = none) : But S H (upd H1 p o) := fun c u e n => by
  have e2 := a c u e n
  rw [upd_ne (ne_of_none e2 h)]
  exact e2
theorem But.put {S : List Addr} {H H1 : Hp} {p : Addr} {o : HO} (a : But S H H1) (h : p ∈ S) : But S H (upd H1 p o) := fun c u e n => by
  rw [upd_ne (fun z => n (by rw [z]; exact h))]
  exact a c u e n
end Rs
namespace Rs
open PySem PySem.Spec PyProof.Rows L2
theorem But.mut {S : List Addr} {H H1 : Hp} {p : Addr} {o : HO} (a : But S H H1) (h : H p = none) : But S H (L2.upd H1 p o) := fun c u e n => by
  rw [upd_ne (ne_of_none e h)]
  exact a c u e n
theorem But.wide {S T : List Addr} {H H1 : Hp} (a : But S H H1) (h : ∀ x ∈ S, x ∈ T) : But T H H1 := fun c u e n => a c u e fun z => n (h c z)
/-- what S may change is not known to H: all stands -/
theorem But.fresh {S : List Addr} {H H0 H1 : Hp} (a : But S H H1) (s : Same H0 H) (h : ∀ x ∈ S, H0 x = none) : Same H0 H1 := fun c u e => a c u (s c u e) fun z => by
  rw [h c z] at e
  cases e
theorem none_of_but {S : List Addr} {H H1 : Hp} {p : Addr} (a : But S H H1) (h : H1 p = none) (n : p ∉ S) : H p = none := by
  cases q : H p with
  | none => rfl
  | some o =>
    rw [a p o q n] at h
    cases h
theorem ixN_nat {n j : Nat} (h : j < n) : ixN n (j : Int) = some j := by
  unfold ixN
  rw [if_pos (by omega), if_pos (by omega)]
  simp
theorem ixN_zero' {n : Nat} (h : 0 < n) : ixN n 0 = some 0 := ixN_nat (j := 0) h
/-! ### reading steps -/
section
variable {K : PySem.W.Frag} {H : Hp} {Q : VK} {x v : V} {xs : List V} {i : Int} {j : Nat}
theorem ixT (h : IsTp H x xs) (hi : i = (j : Int)) (e : xs[j]? = some v) (q : Q v H) : rIxT K x (.int i) H Q := by
  obtain ⟨a, rfl, h⟩ := h
  exact ⟨a, xs, i, v, rfl, rfl, SqT.of h, at_of hi e, q⟩
theorem ixL {a : Addr} (h : H a = some (.lst xs)) (hi : i = (j : Int)) (e : xs[j]? = some v) (q : Q v H) : rIxL K (.ref a) (.int i) H Q := ⟨a, xs, i, v, rfl, rfl, SqL.of h, at_of hi e, q⟩
theorem ixLast {a : Addr} (h : H a = some (.lst (xs ++ [v]))) (q : Q v H) : rIxL K (.ref a) (.int (-1)) H Q := ⟨a, _, _, v, rfl, rfl, SqL.of h, atI_last _ _, q⟩
theorem lenL {a : Addr} (h : H a = some (.lst xs)) {n : Int} (e : n = (xs.length : Int)) (q : Q (.int n) H) : xLen K [.ref a] H Q := by
  subst e
  exact ⟨a, xs, rfl, .inl (SqL.of h), q⟩
theorem lenT (h : IsTp H x xs) {n : Int} (e : n = (xs.length : Int)) (q : Q (.int n) H) : xLen K [x] H Q := by
  subst e
  obtain ⟨a, rfl, h⟩ := h
  exact ⟨a, xs, rfl, .inr (SqT.of h), q⟩
/-- xs == [], xs != [] with the empty list just made -/
theorem neE {a p : Addr} (h : H a = some (.lst xs)) (hp : H p = none) {b : Bool} (e : b = !xs.isEmpty) (q : Q (.bl b) (upd H p (.lst []))) : xNeE K (.ref a) (.ref p) (upd H p (.lst [])) Q := by
  subst e
  refine ⟨a, p, xs, [], rfl, rfl, SqL.of (by rw [upd_ne (ne_of_none h hp)]; exact h), SqL.of upd_same, .inr rfl, ?_⟩
  cases xs <;> exact q
theorem eqE {a p : Addr} (h : H a = some (.lst xs)) (hp : H p = none) {b : Bool} (e : b = xs.isEmpty) (q : Q (.bl b) (upd H p (.lst []))) : xEqE K (.ref a) (.ref p) (upd H p (.lst [])) Q := by
  subst e
  refine ⟨a, p, xs, [], rfl, rfl, SqL.of (by rw [upd_ne (ne_of_none h hp)]; exact h), SqL.of upd_same, .inr rfl, ?_⟩
  cases xs <;> exact q
end
theorem lc_yes {σ : L2.St} {H : Hp} {A B : Hp → Prop} (h : A H) : tYes σ H (fun b H3 => if b = true then A H3 else B H3) := by
  show if true = true then A H else B H
  rw [if_pos rfl]
  exact h
theorem sz0 : (0 : Nat) ≤ sizeLine := Nat.zero_le _
theorem szle {n : Nat} (h : n ≤ 100000) : n ≤ sizeLine := Nat.le_trans h (by decide)
theorem szlt {n : Nat} (h : n < 100000) : n < sizeLine := Nat.lt_of_lt_of_le h (by decide)
/-! ### the order of rows -/
def keyLt : Key → Key → Bool
  | .inl i, .inl j => decide (i < j)
  | .inr s, .inr t => decide (s.cps.toList < t.cps.toList)
  | _, _ => false
def kcol (r : Row) (c : Nat) : Key := r.getD c (.inl 0)
def before : Ord → Pr → Pr → Bool
  | [], p, q => decide (p.1 < q.1)
  | t :: o, p, q => if kcol p.2 t.1 = kcol q.2 t.1 then before o p q else (keyLt (kcol p.2 t.1) (kcol q.2 t.1) == t.2)
/-- they can be compared by the order o -/
def Cmp (o : Ord) (p q : Row) : Prop := ∀ t ∈ o, t.1 < p.length ∧ t.1 < q.length ∧ (kcol p t.1).isLeft = (kcol q t.1).isLeft
theorem kcol_get {r : Row} {c : Nat} (h : c < r.length) : r[c]? = some (kcol r c) := by
  unfold kcol
  rw [List.getD_eq_getElem?_getD, List.getElem?_eq_getElem h]
  rfl
theorem kV_inj {x y : Key} (h : kV x = kV y) : x = y := by
  cases x <;> cases y <;> simp [kV] at h <;> subst h <;> rfl
theorem kV_dec (x y : Key) : decide (kV x = kV y) = decide (x = y) := by
  by_cases h : x = y
  · subst h; simp
  · rw [decide_eq_false h, decide_eq_false fun e => h (kV_inj e)]
theorem kV_scal {x y : Key} (h : x.isLeft = y.isLeft) : scal (kV x) (kV y) = true := by
  cases x <;> cases y <;> first | rfl | cases h
/-- x < y of two keys of one kind -/
theorem ltV_go {H : Hp} {Q : VK} {x y : Key} (h : x.isLeft = y.isLeft) (q : Q (.bl (keyLt x y)) H) : xLtV (kV x) (kV y) H Q := by
  cases x <;> cases y
  · exact .inl ⟨_, _, rfl, rfl, q⟩
  · cases h
  · cases h
  · exact .inr ⟨_, _, rfl, rfl, q⟩
theorem gtV_go {H : Hp} {Q : VK} {x y : Key} (h : x.isLeft = y.isLeft) (q : Q (.bl (keyLt y x)) H) : xGtV (kV x) (kV y) H Q := by
  cases x <;> cases y
  · exact .inl ⟨_, _, rfl, rfl, q⟩
  · cases h
  · cases h
  · exact .inr ⟨_, _, rfl, rfl, q⟩
theorem str_ext {s t : Str} (h : s.cps.toList = t.cps.toList) : s = t := by
  cases s; cases t
  simp at h
  subst h
  rfl
theorem keyLt_irrefl (x : Key) : keyLt x x = false := by
  cases x <;> simp [keyLt]
theorem keyLt_trans {x y z : Key} (a : keyLt x y = true) (b : keyLt y z = true) : keyLt x z = true := by
  cases x <;> cases y <;> cases z <;> simp [keyLt] at a b ⊢
  · omega
  · exact List.lt_trans a b
theorem keyLt_tot {x y : Key} (h : x.isLeft = y.isLeft) (n : x ≠ y) : keyLt y x = !keyLt x y := by
  cases x <;> cases y
  · simp only [keyLt]
    rename_i i j
    have : i ≠ j := fun e => n (by rw [e])
    by_cases e : i < j
    · rw [decide_eq_true e, decide_eq_false (by omega)]; rfl
    · rw [decide_eq_false e, decide_eq_true (by omega)]; rfl
  · cases h
  · cases h
  · simp only [keyLt]
    rename_i s t
    by_cases e : s.cps.toList < t.cps.toList
    · rw [decide_eq_true e, decide_eq_false (fun z => List.lt_irrefl _ (List.lt_trans e z))]; rfl
    · have : t.cps.toList < s.cps.toList := by
        rcases Std.lt_trichotomy s.cps.toList t.cps.toList with h1 | h1 | h1
        · exact absurd h1 e
        · exact absurd (by rw [str_ext h1]) n
        · exact h1
      rw [decide_eq_false e, decide_eq_true this]; rfl
end Rs

namespace Rs
open PySem PySem.Spec PyProof.Rows L2
/-! ### kinds, rows that are some, orders that are some -/
def letters : List Nat := ("abcdefghijklmnopqrstuvwxyz" : Str).cps.toList
def isValue (k : Str) : Key → Bool
  | .inl i => decide (k ≠ "word") && (decide (-999 ≤ i) && decide (i ≤ 999))
  | .inr s => decide (k = "word") && (decide (s.length ≤ 6) && s.cps.toList.all fun c => decide (c ∈ letters))
def isRow (ks : List Str) (r : Row) : Bool := decide (r.length = ks.length) && (List.range ks.length).all fun i => isValue (ks.getD i "") (kcol r i)
structure GoodKinds (ks : List Str) : Prop where
  pos : 1 ≤ ks.length
  le : ks.length ≤ 4
  all : ∀ k ∈ ks, k = "number" ∨ k = "word"
structure GoodOrd (ks : List Str) (o : Ord) : Prop where
  ne : o ≠ []
  col : ∀ t ∈ o, t.1 < ks.length
  nd : (o.map (·.1)).Nodup
theorem isRow_len {ks : List Str} {r : Row} (h : isRow ks r = true) : r.length = ks.length := by
  unfold isRow at h
  simp only [Bool.and_eq_true, decide_eq_true_eq] at h
  exact h.1
theorem isRow_val {ks : List Str} {r : Row} (h : isRow ks r = true) {i : Nat} (hi : i < ks.length) : isValue (ks.getD i "") (kcol r i) = true := by
  unfold isRow at h
  simp only [Bool.and_eq_true, decide_eq_true_eq, List.all_eq_true, List.mem_range] at h
  exact h.2 i hi
theorem isValue_left {k : Str} {x y : Key} (a : isValue k x = true) (b : isValue k y = true) : x.isLeft = y.isLeft := by
  cases x <;> cases y <;> simp [isValue] at a b ⊢
  · exact absurd b.1 a.1
  · exact absurd a.1 b.1
theorem cmp_of {ks : List Str} {o : Ord} {p q : Row} (ho : ∀ t ∈ o, t.1 < ks.length) (hp : isRow ks p = true) (hq : isRow ks q = true) : Cmp o p q := fun t ht => by
  have h := ho t ht
  exact ⟨by rw [isRow_len hp]; exact h, by rw [isRow_len hq]; exact h, isValue_left (isRow_val hp h) (isRow_val hq h)⟩
theorem Cmp.tail {t : Nat × Bool} {o : Ord} {p q : Row} (h : Cmp (t :: o) p q) : Cmp o p q := fun u hu => h u (List.mem_cons_of_mem _ hu)
theorem Cmp.head {t : Nat × Bool} {o : Ord} {p q : Row} (h : Cmp (t :: o) p q) : (kcol p t.1).isLeft = (kcol q t.1).isLeft := (h t (List.mem_cons_self ..)).2.2
theorem before_irrefl : ∀ (o : Ord) (p : Pr), before o p p = false
  | [], p => by simp [before]
  | t :: o, p => by simp [before, before_irrefl o p]
theorem before_trans : ∀ (o : Ord) {p q r : Pr}, Cmp o p.2 q.2 → Cmp o q.2 r.2 → before o p q = true → before o q r = true → before o p r = true
  | [], p, q, r, _, _, a, b => by
    simp [before] at a b ⊢
    omega
  | t :: o, p, q, r, c1, c2, a, b => by
    unfold before at a b ⊢
    have h1 := c1.head
    have h2 := c2.head
    by_cases e1 : kcol p.2 t.1 = kcol q.2 t.1
    · rw [if_pos e1] at a
      by_cases e2 : kcol q.2 t.1 = kcol r.2 t.1
      · rw [if_pos e2] at b
        rw [if_pos (e1.trans e2)]
        exact before_trans o c1.tail c2.tail a b
      · rw [if_neg e2] at b
        rw [e1, if_neg e2]
        exact b
    · rw [if_neg e1] at a
      by_cases e2 : kcol q.2 t.1 = kcol r.2 t.1
      · rw [← e2, if_neg e1]
        exact a
      · rw [if_neg e2] at b
        have ea := beq_iff_eq.mp a
        have eb := beq_iff_eq.mp b
        have t1 := keyLt_tot h1 e1
        have t2 := keyLt_tot h2 e2
        cases ht : t.2 with
        | true =>
          rw [ht] at ea eb
          have tr := keyLt_trans ea eb
          rw [if_neg (fun z => by rw [z, keyLt_irrefl] at tr; cases tr), tr]
          rfl
        | false =>
          rw [ht] at ea eb
          rw [ea] at t1
          rw [eb] at t2
          have tr := keyLt_trans t2 t1
          have ne : kcol p.2 t.1 ≠ kcol r.2 t.1 := fun z => by rw [z, keyLt_irrefl] at tr; cases tr
          rw [if_neg ne]
          have t3 := keyLt_tot (h1.trans h2) ne
          rw [tr] at t3
          cases hk : keyLt (kcol p.2 t.1) (kcol r.2 t.1) with
          | false => rfl
          | true => rw [hk] at t3; cases t3
theorem before_tot : ∀ (o : Ord) {p q : Pr}, Cmp o p.2 q.2 → p.1 ≠ q.1 → before o q p = !before o p q
  | [], p, q, _, n => by
    simp only [before]
    by_cases e : p.1 < q.1
    · rw [decide_eq_true e, decide_eq_false (by omega)]; rfl
    · rw [decide_eq_false e, decide_eq_true (by omega)]; rfl
  | t :: o, p, q, c, n => by
    unfold before
    by_cases e1 : kcol p.2 t.1 = kcol q.2 t.1
    · rw [if_pos e1, if_pos e1.symm]
      exact before_tot o c.tail n
    · rw [if_neg e1, if_neg fun z => e1 z.symm, keyLt_tot c.head e1]
      cases keyLt (kcol p.2 t.1) (kcol q.2 t.1) <;> cases t.2 <;> rfl
/-- a list of (number, row) whose rows are some, no number twice -/
structure Fine (ks : List Str) (xs : List Pr) : Prop where
  row : ∀ p ∈ xs, isRow ks p.2 = true
  nd : (xs.map (·.1)).Nodup
theorem Fine.perm {ks : List Str} {xs ys : List Pr} (h : Fine ks xs) (p : ys.Perm xs) : Fine ks ys := ⟨fun q hq => h.row q (p.mem_iff.mp hq), (p.map (·.1)).nodup_iff.mpr h.nd⟩
theorem Fine.sub {ks : List Str} {xs ys : List Pr} (h : Fine ks xs) (s : ys.Sublist xs) : Fine ks ys := ⟨fun q hq => h.row q (s.subset hq), h.nd.sublist (s.map (·.1))⟩
theorem Fine.take {ks : List Str} {xs : List Pr} (h : Fine ks xs) (n : Nat) : Fine ks (xs.take n) := h.sub (List.take_sublist _ _)
theorem Fine.drop {ks : List Str} {xs : List Pr} (h : Fine ks xs) (n : Nat) : Fine ks (xs.drop n) := h.sub (List.drop_sublist _ _)
/-- in order -/
def Up (o : Ord) (xs : List Pr) : Prop := xs.Pairwise fun p q => before o p q = true
/-- two arrangements in order are one -/
theorem up_unique {ks : List Str} {o : Ord} (ho : ∀ t ∈ o, t.1 < ks.length) : ∀ {xs ys : List Pr}, Fine ks xs → xs.Perm ys → Up o xs → Up o ys → xs = ys
  | [], ys, _, p, _, _ => (List.Perm.nil_eq p)
  | x :: xs, [], _, p, _, _ => absurd p.symm.nil_eq (by simp)
  | x :: xs, y :: ys, f, p, a, b => by
    have fy : Fine ks (y :: ys) := f.perm p.symm
    have e : x = y := by
      have hx : x ∈ y :: ys := p.mem_iff.mp (List.mem_cons_self ..)
      have hy : y ∈ x :: xs := p.mem_iff.mpr (List.mem_cons_self ..)
      rcases List.mem_cons.mp hx with h | h
      · exact h
      · rcases List.mem_cons.mp hy with h' | h'
        · exact h'.symm
        · have b1 : before o y x = true := List.rel_of_pairwise_cons b h
          have a1 : before o x y = true := List.rel_of_pairwise_cons a h'
          have t := before_trans o (cmp_of ho (f.row x (List.mem_cons_self ..)) (f.row y hy)) (cmp_of ho (f.row y hy) (f.row x (List.mem_cons_self ..))) a1 b1
          rw [before_irrefl] at t
          cases t
    subst e
    rw [up_unique ho (f.sub (List.sublist_cons_self ..)) p.cons_inv (List.Pairwise.of_cons a) (List.Pairwise.of_cons b)]
abbrev N_is_before : List Str := ["order", "one", "other", "column", "way"]
abbrev P_is_before : List Str := ["order", "one", "other"]
def sp_is_before (K : PySem.W.Frag) : Sp := fun vs H Q E => match vs with
  | [vo, a, b] => ∃ o p q, LstV TurnAt H vo o ∧ PairAt H a p ∧ PairAt H b q ∧ Cmp o p.2 q.2 ∧ Q (.bl (before o p q)) H
  | _ => False
def t_is_before (K : PySem.W.Frag) (E : XK) : TS := (tSeq (tFor (iList K (tVar 0)) (gTup K 2 (gCons (gName 3) (gCons (gName 4) gNil))) 
    (tIfS (tTest (tOp rNe (tOp (rIxT K) (tOpC (rIxT K) (tVar 1) (.int 1)) (tVar 3)) (tOp (rIxT K) (tOpC (rIxT K) (tVar 2) (.int 1)) (tVar 3)))) (tRet (tOp rEq (tOp xLtV (tOp (rIxT K) (tOpC (rIxT K) (tVar 1) (.int 1)) (tVar 3)) (tOp (rIxT K) (tOpC (rIxT K) (tVar 2) (.int 1)) (tVar 3))) (tOpC rEq (tVar 4) (.str "up")))) tNext))
  (tRet (tOp xLt (tOpC (rIxT K) (tVar 1) (.int 0)) (tOpC (rIxT K) (tVar 2) (.int 0)))))
theorem before_cons (t : Nat × Bool) (o : Ord) (p q : Pr) : before (t :: o) p q = if kcol p.2 t.1 = kcol q.2 t.1 then before o p q else (keyLt (kcol p.2 t.1) (kcol q.2 t.1) == t.2) := rfl
theorem way_eq (b : Bool) : decide (V.str (wayS b) = V.str "up") = b := by
  cases b
  · exact decide_eq_false fun e => absurd e (by decide +kernel)
  · exact decide_eq_true rfl
theorem pure_is_before {K : PySem.W.Frag} : ∀ vs H Q E, sp_is_before K vs H Q E → t_is_before K E { nx := fun _ H' => Q .non H', rt := Q } (start N_is_before vs) H := by
  intro vs H Q E h
  match vs, h with
  | [vo, a, b], h =>
    obtain ⟨o, p, q, ⟨lo, rfl, ts, hl, hts⟩, ⟨w1, ha, hr1⟩, ⟨w2, hb, hr2⟩, hc, k⟩ := h
    refine ⟨_, rfl, lo, rfl, ⟨_, SqL.of hl⟩, for_list (K := K) (a := lo) (xs := ts) (fun i σ H' => ∃ x3 x4, σ = [some (.ref lo), some a, some b, x3, x4] ∧ H' = H ∧ before o p q = before (o.drop i) p q) ⟨none, none, rfl, rfl, rfl⟩ ?_ ?_ ?_⟩
    · rintro i σ H' _ ⟨_, _, _, rfl, _⟩
      exact SqL.of hl
    · rintro i v σ H' hi ⟨x3, x4, rfl, rfl, he⟩
      obtain ⟨t, ht, at_, rfl, et⟩ := P2.get hts hi
      have hd : o.drop i = t :: o.drop (i + 1) := drop_cons ht
      obtain ⟨c1, c2, c3⟩ := hc t (List.mem_of_getElem? ht)
      refine ⟨at_, _, rfl, SqT.of et, rfl, _, _, rfl, _, _, rfl, rfl, ?_⟩
      refine ⟨_, rfl, ixT ha (j := 1) rfl rfl ⟨_, rfl, ixT hr1 (j := t.1) rfl (by rw [List.getElem?_map, kcol_get c1]; rfl) ⟨_, rfl, ixT hb (j := 1) rfl rfl ⟨_, rfl, ixT hr2 (j := t.1) rfl (by rw [List.getElem?_map, kcol_get c2]; rfl) ⟨kV_scal c3, _, rfl, ?_⟩⟩⟩⟩⟩
      rw [kV_dec]
      rw [hd, before_cons] at he
      by_cases e : kcol p.2 t.1 = kcol q.2 t.1
      · rw [decide_eq_true e]
        rw [if_pos e] at he
        exact ⟨_, _, rfl, rfl, he⟩
      · rw [decide_eq_false e]
        rw [if_neg e] at he
        refine ⟨_, rfl, ixT ha (j := 1) rfl rfl ⟨_, rfl, ixT hr1 (j := t.1) rfl (by rw [List.getElem?_map, kcol_get c1]; rfl) ⟨_, rfl, ixT hb (j := 1) rfl rfl ⟨_, rfl, ixT hr2 (j := t.1) rfl (by rw [List.getElem?_map, kcol_get c2]; rfl) (ltV_go c3 ⟨_, rfl, rfl, rfl, ?_⟩)⟩⟩⟩⟩
        rw [way_eq]
        rw [he] at k
        have z : decide (V.bl (keyLt (kcol p.2 t.1) (kcol q.2 t.1)) = V.bl t.2) = (keyLt (kcol p.2 t.1) (kcol q.2 t.1) == t.2) := by
          cases keyLt (kcol p.2 t.1) (kcol q.2 t.1) <;> cases t.2 <;> rfl
        rw [z]
        exact k
    · rintro σ H' ⟨x3, x4, rfl, rfl, he⟩
      have e0 : before o p q = decide (p.1 < q.1) := by rw [he, List.drop_of_length_le (by rw [← hts.length]; exact Nat.le_refl _)]; rfl
      rw [e0] at k
      exact ⟨_, rfl, ixT ha (j := 0) rfl rfl ⟨_, rfl, ixT hb (j := 0) rfl rfl ⟨_, _, rfl, rfl, k⟩⟩⟩
end Rs

namespace Rs
open PySem PySem.Spec PyProof.Rows L2
/-! ### the law's box: the numbers that are left, and a number -/
structure Box (H : Hp) (a l : Addr) : Prop where
  ex : ∃ (ns : List Int) (st : Int), H a = some (.lst [.ref l, .int st]) ∧ H l = some (.lst (ns.map V.int)) ∧ 0 ≤ st
theorem Box.ne {H : Hp} {a l : Addr} (b : Box H a l) : a ≠ l := by
  obtain ⟨ns, st, h1, h2, _⟩ := b.ex
  intro e
  subst e
  rw [h1] at h2
  cases ns with
  | nil => cases h2
  | cons n ns => cases h2
theorem Box.keep {H H' : Hp} {a l : Addr} (b : Box H a l) (h1 : ∀ o, H a = some o → H' a = some o) (h2 : ∀ o, H l = some o → H' l = some o) : Box H' a l := by
  obtain ⟨ns, st, e1, e2, h⟩ := b.ex
  exact ⟨ns, st, h1 _ e1, h2 _ e2, h⟩
theorem Box.same {H H' : Hp} {a l : Addr} (b : Box H a l) (s : Same H H') : Box H' a l := b.keep (fun o => s a o) fun o => s l o
theorem Box.tup {H H' : Hp} {a l : Addr} (b : Box H a l) (k : But [a, l] H H') : TupLe H H' := fun c xs e => by
  obtain ⟨ns, st, e1, e2, h⟩ := b.ex
  refine k c _ e ?_
  intro hm
  simp at hm
  rcases hm with rfl | rfl
  · rw [e1] at e; cases e
  · rw [e2] at e; cases e
theorem un {H : Hp} {a p : Addr} {o u : HO} (h : H a = some o) (hp : H p = none) : upd H p u a = some o := by
  rw [upd_ne (ne_of_none h hp)]
  exact h
theorem up {H : Hp} {a p : Addr} {o u : HO} (h : H a = some o) (hp : a ≠ p) : upd H p u a = some o := by
  rw [upd_ne hp]
  exact h
theorem nn {a b c : Addr} (h1 : a ≠ b) (h2 : a ≠ c) : a ∉ [b, c] := by
  intro hm
  simp at hm
  rcases hm with h | h
  · exact h1 h
  · exact h2 h
abbrev N_law_begun : List Str := ["_law_script", "_law_stirred", "_law_cell"]
abbrev P_law_begun : List Str := ["_law_script"]
def sp_law_begun (K : PySem.W.Frag) : Sp := fun vs H Q E => match vs with
  | [s] => ∃ (p : Addr) (ns : List Int), s = .ref p ∧ SqL K H p (ns.map V.int) ∧ ns.length ≤ 63 ∧ ∀ a l H', H a = none → H l = none → Box H' a l → Same H H' → Q (.ref a) H'
  | _ => False
def t_law_begun (K : PySem.W.Frag) (E : XK) : TS := (tSeq (tAsg (tC (.int 0)) (gName 1))
  (tSeq (tFor (iList K (tVar 0)) (gName 2) (tAsg (tOpC xMod (tOpC xAdd (tOp xAdd (tOpC xMul (tVar 1) (.int 48271)) (tOpC xMul (tVar 2) (.int 69621))) (.int 11)) (.int 2147483647)) (gName 1)))
   (tRet (tLst (tCons (tCB1 (xList K) (tVar 0)) (tCons (tOp xMul (tVar 1) (tCB1 xInt (tOpC xGt (tCB1 (xLen K) (tVar 0)) (.int 2)))) tNil))))))
theorem pure_law_begun {K : PySem.W.Frag} : ∀ vs H Q E, sp_law_begun K vs H Q E → t_law_begun K E { nx := fun _ H' => Q .non H', rt := Q } (start N_law_begun vs) H := by
  intro vs H Q E h
  match vs, h with
  | [s], h =>
    obtain ⟨p, ns, rfl, hs, hlen, k⟩ := h
    refine ⟨_, rfl, p, rfl, ⟨_, hs⟩, for_list (K := K) (a := p) (xs := ns.map V.int) (fun i σ H' => ∃ (st : Int) (x2 : Option V), σ = [some (.ref p), some (.int st), x2] ∧ H' = H ∧ 0 ≤ st) ⟨0, none, rfl, rfl, Int.le_refl _⟩ ?_ ?_ ?_⟩
    · rintro i σ H' _ ⟨_, _, _, rfl, _⟩
      exact hs
    · rintro i v σ H' hi ⟨st, x2, rfl, rfl, h0⟩
      rw [List.getElem?_map] at hi
      obtain ⟨n, hn, rfl⟩ := Option.map_eq_some_iff.mp hi
      refine ⟨_, rfl, _, _, rfl, rfl, .inr ⟨by decide, by decide⟩, _, rfl, _, _, rfl, rfl, .inr ⟨by decide, by decide⟩, _, _, rfl, rfl, _, _, rfl, rfl, _, _, rfl, rfl, by show (0 : Int) < 2147483647; decide, ?_⟩
      exact ⟨_, _, rfl, rfl, Int.emod_nonneg _ (by decide)⟩
    · rintro σ H' ⟨st, x2, rfl, rfl, h0⟩
      refine ⟨_, rfl, p, _, rfl, .inl hs, fun l hl => ?_⟩
      have hs1 : SqL K (upd H' l (.lst (ns.map V.int))) p (ns.map V.int) := Same.seq (Rs.Same.new hl) hs
      refine ⟨_, rfl, _, rfl, p, _, rfl, .inl hs1, _, _, rfl, rfl, .inr ⟨_, rfl, ?_⟩⟩
      have hb : ∀ b : Bool, CMul st (if b = true then 1 else 0) := fun b => by cases b <;> exact .inr ⟨by decide, by decide⟩
      refine ⟨_, _, rfl, rfl, hb _, szle (by show 2 ≤ 100000; decide), fun a ha => ?_⟩
      have nal : l ≠ a := ne_of_none upd_same ha
      have hz : ∀ b : Bool, 0 ≤ st * (if b = true then (1 : Int) else 0) := fun b => by cases b <;> simp [h0]
      refine k a l _ (none_of_but (S := []) (But.same (Rs.Same.new hl)) ha (by simp)) hl ⟨ns, _, upd_same, by rw [upd_ne nal]; exact upd_same, hz _⟩ (Same.trans (Rs.Same.new hl) (Rs.Same.new ha))
abbrev N_law_take : List Str := ["_law_box", "_law_many", "_law_number"]
abbrev P_law_take : List Str := ["_law_box", "_law_many"]
def sp_law_take (K : PySem.W.Frag) : Sp := fun vs H Q E => match vs with
  | [b, m] => ∃ a l n, b = .ref a ∧ m = .int n ∧ 0 < n ∧ n ≤ 1000000000000000000 ∧ Box H a l ∧ ∀ r H', 0 ≤ r → r < n → Box H' a l → But [a, l] H H' → Q (.int r) H'
  | _ => False
def t_law_take (K : PySem.W.Frag) (E : XK) : TS := (tSeq (tIfS (tTest (tOp (xEqE K) (tOpC (rIxL K) (tVar 0) (.int 0)) (tLst tNil))) 
    (tSeq (tAsg (tOpC xMod (tOpC xMul (tOpC (rIxL K) (tVar 0) (.int 1)) (.int 48271)) (.int 2147483647)) (gSubC (tVar 0) (.int 1) rSetL))
    (tRet (tOp xMod (tOpC xDiv (tOpC (rIxL K) (tVar 0) (.int 1)) (.int 7)) (tVar 1)))) tNext)
  (tSeq (tAsg (tOpC (rIxL K) (tOpC (rIxL K) (tVar 0) (.int 0)) (.int 0)) (gName 2))
   (tSeq (tAsg (tOp xDiv (tVar 2) (tVar 1)) (gSubC (tOpC (rIxL K) (tVar 0) (.int 0)) (.int 0) rSetL))
    (tSeq (tIfS (tOr (tTest (tOpC rEq (tOpC (rIxL K) (tOpC (rIxL K) (tVar 0) (.int 0)) (.int 0)) (.int 0))) (tTest (tOpC rEq (tOpC (rIxL K) (tOpC (rIxL K) (tVar 0) (.int 0)) (.int 0)) (.int (-1))))) (tDrop (tBM K "list" rPopAt (tOpC (rIxL K) (tVar 0) (.int 0)) (tConsC (.int 0) tNil))) tNext)
     (tRet (tOp xMod (tVar 2) (tVar 1)))))))
theorem ixN_zero {n : Nat} : ixN (n + 1) 0 = some 0 := by
  unfold ixN
  rw [if_pos (by omega), if_pos (by omega)]
  rfl
theorem seqIx {n j : Nat} (h : j < n) : seqIndex? (j : Int) n = some j := (ixN_seq (ixN_nat h)).1
theorem div_ok {i j : Int} (h : 0 < j) (h2 : j ≤ 1000000000000000000) : CDivW i j := wide_div (b := 60) h (by omega) (by decide) (by decide)
theorem pure_law_take {K : PySem.W.Frag} : ∀ vs H Q E, sp_law_take K vs H Q E → t_law_take K E { nx := fun _ H' => Q .non H', rt := Q } (start N_law_take vs) H := by
  intro vs H Q E h
  match vs, h with
  | [b, m], h =>
    obtain ⟨a, l, n, rfl, rfl, hn, hn2, B, k⟩ := h
    have nal := B.ne
    obtain ⟨ns, st, ha, hl, h0⟩ := B.ex
    refine ⟨_, rfl, ixL ha (j := 0) rfl rfl ⟨sz0, fun p hp => ?_⟩⟩
    have ha1 : upd H p (.lst []) a = _ := un ha hp
    have hl1 : upd H p (.lst []) l = _ := un hl hp
    have s1 : But [a, l] H (upd H p (.lst [])) := But.same (Rs.Same.new hp)
    cases ns with
    | nil =>
      refine eqE hl hp (b := true) rfl ⟨_, rfl, ?_⟩
      refine ⟨_, rfl, ixL ha1 (j := 1) rfl rfl ⟨_, _, rfl, rfl, .inr ⟨by decide, by decide⟩, _, _, rfl, rfl, by show (0 : Int) < 2147483647; decide, ?_⟩⟩
      refine ⟨_, rfl, _, _, _, 1, rfl, rfl, ha1, rfl, ?_⟩
      refine ⟨_, rfl, ixL (j := 1) upd_same rfl rfl ⟨_, _, rfl, rfl, div_ok (by decide) (by decide), _, rfl, _, _, rfl, rfl, hn, ?_⟩⟩
      exact k _ _ (Int.emod_nonneg _ (by omega)) (Int.emod_lt_of_pos _ hn) ⟨[], _, upd_same, by rw [upd_ne nal.symm]; exact hl1, Int.emod_nonneg _ (by decide)⟩ (s1.put (by simp))
    | cons x ns =>
      refine eqE hl hp (b := false) rfl ⟨_, rfl, ?_⟩
      refine ⟨_, rfl, ixL ha1 (j := 0) rfl rfl (ixL hl1 (j := 0) rfl rfl ?_)⟩
      refine ⟨_, rfl, _, rfl, _, _, rfl, rfl, div_ok hn hn2, ?_⟩
      refine ⟨_, rfl, ixL ha1 (j := 0) rfl rfl ⟨_, _, _, 0, rfl, rfl, hl1, ixN_zero, ?_⟩⟩
      have ha2 : upd (upd H p (.lst [])) l (.lst (((x :: ns).map V.int).set 0 (.int (x / n)))) a = _ := up ha1 nal
      have hl2 : upd (upd H p (.lst [])) l (.lst (((x :: ns).map V.int).set 0 (.int (x / n)))) l = some (.lst (((x / n) :: ns).map V.int)) := upd_same
      have s2 : But [a, l] H (upd (upd H p (.lst [])) l (.lst (((x :: ns).map V.int).set 0 (.int (x / n))))) := s1.put (by simp)
      have fin : ∀ H', Box H' a l → But [a, l] H H' → Q (.int (x % n)) H' := fun H' b' k' => k _ _ (Int.emod_nonneg _ (by omega)) (Int.emod_lt_of_pos _ hn) b' k'
      have pop : ∀ D : Ends, (∀ σ H', Box H' a l → But [a, l] H H' → σ = [some (.ref a), some (.int n), some (.int x)] → D.nx σ H') → tDrop (tBM K "list" rPopAt (tOpC (rIxL K) (tVar 0) (.int 0)) (tConsC (.int 0) tNil)) D [some (.ref a), some (.int n), some (.int x)] (upd (upd H p (.lst [])) l (.lst (((x :: ns).map V.int).set 0 (.int (x / n))))) := fun D hD => by
        refine ⟨_, rfl, ixL ha2 (j := 0) rfl rfl ⟨.inl ⟨rfl, _, SqL.of hl2⟩, _, _, _, 0, _, rfl, rfl, hl2, by decide, by decide, seqIx (Nat.zero_lt_succ _), rfl, ?_⟩⟩
        refine hD _ _ ⟨ns, st, up ha2 nal, upd_same, h0⟩ (s2.put (by simp)) rfl
      refine ⟨_, rfl, ixL ha2 (j := 0) rfl rfl (ixL hl2 (j := 0) rfl rfl ⟨rfl, _, rfl, ?_⟩)⟩
      by_cases e : (V.int (x / n)) = .int 0
      · rw [decide_eq_true e]
        refine pop _ fun σ H' b' k' e' => ?_
        subst e'
        exact ⟨_, rfl, _, rfl, _, _, rfl, rfl, hn, fin _ b' k'⟩
      · rw [decide_eq_false e]
        refine ⟨_, rfl, ixL ha2 (j := 0) rfl rfl (ixL hl2 (j := 0) rfl rfl ⟨rfl, _, rfl, ?_⟩)⟩
        by_cases e' : (V.int (x / n)) = .int (-1)
        · rw [decide_eq_true e']
          refine pop _ fun σ H' b' k' e' => ?_
          subst e'
          exact ⟨_, rfl, _, rfl, _, _, rfl, rfl, hn, fin _ b' k'⟩
        · rw [decide_eq_false e']
          exact ⟨_, rfl, _, rfl, _, _, rfl, rfl, hn, fin _ ⟨(x / n) :: ns, st, ha2, hl2, h0⟩ s2⟩
abbrev N_law_kinds : List Str := ["_law_box", "_law_k"]
abbrev P_law_kinds : List Str := ["_law_box"]
def KindsAt : Rel (List Str) := fun H v ks => IsTp H v (ks.map V.str)
def sp_law_kinds (K : PySem.W.Frag) : Sp := fun vs H Q E => match vs with
  | [b] => ∃ a l, b = .ref a ∧ Box H a l ∧ ∀ v ks H', KindsAt H' v ks → GoodKinds ks → Box H' a l → But [a, l] H H' → Q v H'
  | _ => False
def t_law_kinds (K : PySem.W.Frag) (E : XK) : TS := (tRet (tCB1 (xTuple K) (tLc (iRng1 (tCons (tOpD xAdd (.int 1) (tCall (sp_law_take K) [] E (tCons (tVar 0) (tConsC (.int 4) tNil)))) tNil)) (gName 1) tYes (tOp (rIxL K) (tLst (tConsC (.str "number") (tConsC (.str "word") tNil))) (tCall (sp_law_take K) [] E0 (tCons (tVar 0) (tConsC (.int 2) tNil)))) [1])))
theorem pick2 {r : Int} (h0 : 0 ≤ r) (h1 : r < 2) : r = 0 ∨ r = 1 := by omega
theorem pick3 {r : Int} (h0 : 0 ≤ r) (h1 : r < 3) : r = 0 ∨ r = 1 ∨ r = 2 := by omega
/-- [s, t][take(box, 2)] -/
theorem pick_two {K : PySem.W.Frag} {H : Hp} {a l : Addr} {x y : V} {Q : VK} {E : XK} {σ : L2.St} {i : Nat} (hσ : σ[i]? = some (some (.ref a))) (B : Box H a l)
    (k : ∀ z H', (z = x ∨ z = y) → Box H' a l → But [a, l] H H' → Q z H') : tOp (rIxL K) (tLst (tConsC x (tConsC y tNil))) (tCall (sp_law_take K) [] E (tCons (tVar i) (tConsC (.int 2) tNil))) σ H Q := by
  refine ⟨szle (by show 2 ≤ 100000; decide), fun p hp => ?_⟩
  obtain ⟨ns, st, ha, hl, h0⟩ := B.ex
  have B1 : Box (upd H p (.lst [x, y])) a l := B.same (Rs.Same.new hp)
  refine ⟨_, hσ, a, l, _, rfl, rfl, by decide, by decide, B1, fun r H1 h0 h1 B2 k1 => ?_⟩
  have hp1 : H1 p = some (.lst [x, y]) := k1 _ _ upd_same (nn (ne_of_none ha hp).symm (ne_of_none hl hp).symm)
  have kk : But [a, l] H H1 := But.trans (But.same (Rs.Same.new hp)) k1
  rcases pick2 h0 h1 with rfl | rfl
  · exact ixL hp1 (j := 0) rfl rfl (k _ _ (.inl rfl) B2 kk)
  · exact ixL hp1 (j := 1) rfl rfl (k _ _ (.inr rfl) B2 kk)
theorem pure_law_kinds {K : PySem.W.Frag} : ∀ vs H Q E, sp_law_kinds K vs H Q E → t_law_kinds K E { nx := fun _ H' => Q .non H', rt := Q } (start N_law_kinds vs) H := by
  intro vs H Q E h
  match vs, h with
  | [b], h =>
    obtain ⟨a, l, rfl, B, k⟩ := h
    refine ⟨_, rfl, a, l, _, rfl, rfl, by decide, by decide, B, fun r H1 h0 h1 B1 k1 => ⟨_, _, rfl, rfl, _, rfl, by omega, by omega, fun D hD => ?_⟩⟩
    obtain ⟨ns, st, ha, hl, _⟩ := B1.ex
    have nDa := (ne_of_none ha hD).symm
    have nDl := (ne_of_none hl hD).symm
    refine lc_range (lo := 0) (n := (1 + r).toNat) (fun i H' => ∃ ks : List Str, H' D = some (.lst (ks.map V.str)) ∧ ks.length = i ∧ (∀ x ∈ ks, x = "number" ∨ x = "word") ∧ Box H' a l ∧ But [a, l] H H')
      ⟨[], upd_same, rfl, by simp, B1.same (Rs.Same.new hD), k1.new hD⟩ ?_ ?_
    · rintro i H' hi ⟨ks, hd, hlen, hall, B', k'⟩
      refine ⟨rfl, ?_⟩
      refine lc_yes (pick_two (i := 0) rfl B' fun z H2 hz B2 k2 => ?_)
      have hd2 := k2 _ _ hd (nn nDa nDl)
      have fin : ∀ s : Str, z = .str s → (s = "number" ∨ s = "word") → ∃ acc, H2 D = some (.lst acc) ∧ acc.length < sizeLine ∧ ∃ ks : List Str, upd H2 D (.lst (acc ++ [z])) D = some (.lst (ks.map V.str)) ∧ ks.length = i + 1 ∧ (∀ x ∈ ks, x = "number" ∨ x = "word") ∧ Box (upd H2 D (.lst (acc ++ [z]))) a l ∧ But [a, l] H (upd H2 D (.lst (acc ++ [z]))) := fun s es hs => by
        subst es
        have hz0 : H D = none := none_of_but k1 hD (nn nDa nDl)
        exact ⟨_, hd2, szlt (by rw [List.length_map]; omega), ks ++ [s], by rw [upd_same, List.map_append] <;> rfl, by simp [hlen], fun x hx => (List.mem_append.mp hx).elim (hall x) fun hx => by rw [List.mem_singleton.mp hx]; exact hs, B2.keep (fun o e => up e nDa.symm) (fun o e => up e nDl.symm), (k'.trans k2).mut hz0⟩
      rcases hz with rfl | rfl
      · exact fin _ rfl (.inl rfl)
      · exact fin _ rfl (.inr rfl)
    · rintro H' ⟨ks, hd, hlen, hall, B', k'⟩
      refine ⟨_, _, rfl, .inl ⟨SqL.of hd, fun t ht => ?_⟩⟩
      exact k _ ks _ ⟨t, rfl, upd_same⟩ ⟨by omega, by omega, hall⟩ (B'.same (Rs.Same.new ht)) (k'.new ht)
abbrev N_law_order : List Str := ["_law_box", "_law_kinds_here", "_law_left", "_law_found", "_law_turn"]
abbrev P_law_order : List Str := ["_law_box", "_law_kinds_here"]
def sp_law_order (K : PySem.W.Frag) : Sp := fun vs H Q E => match vs with
  | [b, kv] => ∃ a l ks, b = .ref a ∧ Box H a l ∧ KindsAt H kv ks ∧ GoodKinds ks ∧ ∀ f o H', H f = none → Lst TurnAt H' f o → GoodOrd ks o → Box H' a l → But [a, l] H H' → Q (.ref f) H'
  | _ => False
def t_law_order (K : PySem.W.Frag) (E : XK) : TS := (tSeq (tAsg (tLstRg (tRg1 (tCB1 (xLen K) (tVar 1)))) (gName 2))
  (tSeq (tAsg (tLst tNil) (gName 3))
   (tSeq (tFor (iRng1 (tCons (tOpD xAdd (.int 1) (tCall (sp_law_take K) [] E (tCons (tVar 0) (tCons (tCB1 (xLen K) (tVar 1)) tNil)))) tNil)) (gName 4) (tDrop (tBM K "list" rAppend (tVar 3) (tCons (tTup (tCons (tBM K "list" rPopAt (tVar 2) (tCons (tCall (sp_law_take K) [] E (tCons (tVar 0) (tCons (tCB1 (xLen K) (tVar 2)) tNil))) tNil)) (tCons (tOp (rIxL K) (tLst (tConsC (.str "up") (tConsC (.str "down") tNil))) (tCall (sp_law_take K) [] E (tCons (tVar 0) (tConsC (.int 2) tNil)))) tNil))) tNil))))
    (tRet (tVar 3)))))
theorem map_erase {α β : Type} (f : α → β) : ∀ (l : List α) (i : Nat), (l.map f).eraseIdx i = (l.eraseIdx i).map f
  | [], _ => rfl
  | _ :: _, 0 => rfl
  | a :: l, i + 1 => by simpa using map_erase f l i
theorem take_append_erase {α : Type} : ∀ {l : List α} {i : Nat} {x : α}, l[i]? = some x → l.Perm (x :: l.eraseIdx i)
  | [], _, _, h => by simp at h
  | a :: l, 0, x, h => by simp at h; subst h; exact .refl _
  | a :: l, i + 1, x, h => by
    have ih := take_append_erase (l := l) (i := i) (x := x) (by simpa using h)
    exact (ih.cons a).trans (List.Perm.swap x a _)
theorem pure_law_order {K : PySem.W.Frag} : ∀ vs H Q E, sp_law_order K vs H Q E → t_law_order K E { nx := fun _ H' => Q .non H', rt := Q } (start N_law_order vs) H := by
  intro vs H Q E h
  match vs, h with
  | [b, kv], h =>
    obtain ⟨a, l, ks, rfl, B, hk, gk, k⟩ := h
    obtain ⟨ns, st, ha, hl, _⟩ := B.ex
    have g1 := gk.pos
    have g4 := gk.le
    obtain ⟨kt, rfl, hkt⟩ := hk
    refine ⟨_, rfl, _, _, rfl, .inr (SqT.of hkt), _, rfl, RgOk.of_le (by decide) (by rw [List.length_map]; omega) (by decide) (by omega), fun q hq => ?_⟩
    refine ⟨sz0, fun f hf => ?_⟩
    have B0 : Box (upd (upd H q (.lst (rgV 0 ((ks.map V.str).length : Nat)))) f (.lst [])) a l := (B.same (Rs.Same.new hq)).same (Rs.Same.new hf)
    have nqf : q ≠ f := ne_of_none upd_same hf
    have hf0 : H f = none := none_of_but (S := []) (But.same (Rs.Same.new hq)) hf (by simp)
    have qa := (ne_of_none ha hq).symm
    have ql := (ne_of_none hl hq).symm
    have fa := (ne_of_none ha hf0).symm
    have fl := (ne_of_none hl hf0).symm
    have k0 : But [a, l] H (upd (upd H q (.lst (rgV 0 ((ks.map V.str).length : Nat)))) f (.lst [])) := (But.same (Rs.Same.new hq)).new hf
    have kt0 := k0 _ _ hkt (nn (ne_of hkt ha (by intro z; cases z)) (ne_of hkt hl (by intro z; cases z)))
    refine ⟨_, rfl, _, rfl, _, _, rfl, .inr (SqT.of kt0), a, l, _, rfl, rfl, by rw [List.length_map]; omega, by rw [List.length_map]; omega, B0, fun r H1 h0 h1 B1 k1 => ?_⟩
    rw [List.length_map] at h1
    refine ⟨_, _, rfl, rfl, _, rfl, by omega, by omega, ?_⟩
    refine for_range (lo := 0) (n := (1 + r).toNat) (fun i σ H' => ∃ (ls : List Nat) (o : Ord) (x4 : Option V), σ = [some (.ref a), some (.ref kt), some (.ref q), some (.ref f), x4] ∧ H' q = some (.lst (ls.map fun (n : Nat) => V.int (n : Int))) ∧ Lst TurnAt H' f o ∧
      Box H' a l ∧ But [a, l] H H' ∧ (o.map (·.1) ++ ls).Perm (List.range ks.length) ∧ o.length = i) ?_ ?_ ?_
    · refine ⟨List.range ks.length, [], none, rfl, ?_, ⟨[], k1 _ _ upd_same (nn fa fl), .nil⟩, B1, k0.trans k1, by simp, rfl⟩
      rw [k1 q _ (un upd_same hf) (nn qa ql)]
      unfold rgV
      rw [List.length_map]
      simp
    · rintro i σ H' hi ⟨ls, o, x4, rfl, hq', ⟨tv, hf', ht'⟩, B', k', hp, hlen⟩
      have hll : ls.length + i = ks.length := by
        have e := hp.length_eq
        simp at e
        omega
      refine ⟨_, rfl, .inl ⟨rfl, _, SqL.of hf'⟩, _, rfl, .inl ⟨rfl, _, SqL.of hq'⟩, _, rfl, _, rfl, _, _, rfl, .inl (SqL.of hq'), a, l, _, rfl, rfl, by rw [List.length_map]; omega, by rw [List.length_map]; omega, B', fun r2 H2 h20 h21 B2 k2 => ?_⟩
      rw [List.length_map] at h21
      have hq2 := k2 _ _ hq' (nn qa ql)
      have hf2 := k2 _ _ hf' (nn fa fl)
      obtain ⟨j, rfl⟩ : ∃ j : Nat, r2 = (j : Int) := ⟨r2.toNat, by omega⟩
      have hj : j < ls.length := by omega
      refine ⟨_, _, _, j, _, rfl, rfl, hq2, by omega, by omega, seqIx (by rw [List.length_map]; exact hj), by rw [List.getElem?_map, List.getElem?_eq_getElem hj]; rfl, ?_⟩
      have hf3 : upd H2 q (.lst ((ls.map fun (n : Nat) => V.int (n : Int)).eraseIdx j)) f = _ := up hf2 nqf.symm
      have B3 : Box (upd H2 q (.lst ((ls.map fun (n : Nat) => V.int (n : Int)).eraseIdx j))) a l := B2.keep (fun o e => up e qa.symm) (fun o e => up e ql.symm)
      have k3 : But [a, l] H (upd H2 q (.lst ((ls.map fun (n : Nat) => V.int (n : Int)).eraseIdx j))) := (k'.trans k2).mut hq
      have t3 : TupLe H' (upd H2 q (.lst ((ls.map fun (n : Nat) => V.int (n : Int)).eraseIdx j))) := (B'.tup k2).list hq2
      refine pick_two (i := 0) rfl B3 fun z H4 hz B4 k4 => ?_
      have hf4 := k4 _ _ hf3 (nn fa fl)
      have hq4 := k4 _ _ upd_same (nn qa ql)
      have t4 := t3.trans (B3.tup k4)
      refine ⟨szle (by show 2 ≤ 100000; decide), fun t ht => ?_⟩
      have nft := ne_of_none hf4 ht
      have nqt := ne_of_none hq4 ht
      have ol : o.length ≤ 4 := by omega
      refine ⟨_, _, _, rfl, rfl, un hf4 ht, szlt (by have := ht'.length; omega), ?_⟩
      obtain ⟨w, rfl⟩ : ∃ w : Bool, z = .str (wayS w) := by
        rcases hz with rfl | rfl
        · exact ⟨true, rfl⟩
        · exact ⟨false, rfl⟩
      refine ⟨ls.eraseIdx j, o ++ [(ls[j], w)], _, rfl, ?_, ⟨_, upd_same, ?_⟩, (B4.same (Rs.Same.new ht)).keep (fun o e => up e fa.symm) (fun o e => up e fl.symm), ((k3.trans k4).new ht).mut hf0, ?_, by simp [hlen]⟩
      · rw [upd_ne nqf, un hq4 ht, map_erase]
      · refine P2.app (Paired.tl TurnAt.st ((t4.trans (TupLe.new ht)).list (un hf4 ht)) ht') (P2.one ⟨t, rfl, ?_⟩)
        rw [upd_ne nft.symm]
        exact upd_same
      · refine List.Perm.trans ?_ hp
        rw [List.map_append, List.append_assoc]
        exact List.Perm.append_left _ (take_append_erase (List.getElem?_eq_getElem hj)).symm
    · rintro σ H' ⟨ls, o, x4, rfl, hq', hf', B', k', hp, hlen⟩
      refine ⟨_, rfl, k f o H' hf0 hf' ⟨fun e => ?_, fun t ht => ?_, ?_⟩ B' k'⟩
      · subst e
        simp at hlen
        omega
      · have : t.1 ∈ List.range ks.length := hp.mem_iff.mp (List.mem_append_left _ (List.mem_map_of_mem ht))
        exact List.mem_range.mp this
      · exact (List.nodup_append.mp (hp.nodup_iff.mpr List.nodup_range)).1
abbrev N_law_value : List Str := ["_law_box", "_law_kind", "_law_many", "_law_letters", "_law_k"]
abbrev P_law_value : List Str := ["_law_box", "_law_kind"]
def sp_law_value (K : PySem.W.Frag) : Sp := fun vs H Q E => match vs with
  | [b, kv] => ∃ a l kd, b = .ref a ∧ kv = .str kd ∧ (kd = "number" ∨ kd = "word") ∧ Box H a l ∧ ∀ x H', isValue kd x = true → Box H' a l → But [a, l] H H' → Q (kV x) H'
  | _ => False
def t_law_value (K : PySem.W.Frag) (E : XK) : TS := (tSeq (tIfS (tTest (tOpC rEq (tVar 1) (.str "number"))) (tRet (tOp (rIxL K) (tLst (tCons (tCall (sp_law_take K) [] E (tCons (tVar 0) (tConsC (.int 4) tNil))) (tCons (tOpC xSub (tCall (sp_law_take K) [] E (tCons (tVar 0) (tConsC (.int 1999) tNil))) (.int 999)) (tCons (tOp (rIxL K) (tLst (tConsC (.int (-999)) (tConsC (.int 999) (tConsC (.int 0) tNil)))) (tCall (sp_law_take K) [] E (tCons (tVar 0) (tConsC (.int 3) tNil)))) tNil)))) (tCall (sp_law_take K) [] E (tCons (tVar 0) (tConsC (.int 3) tNil))))) tNext)
  (tSeq (tAsg (tCall (sp_law_take K) [] E (tCons (tVar 0) (tCons (tOp (rIxL K) (tLst (tConsC (.int 3) (tConsC (.int 7) tNil))) (tCall (sp_law_take K) [] E (tCons (tVar 0) (tConsC (.int 2) tNil)))) tNil))) (gName 2))
   (tSeq (tAsg (tOp (rIxL K) (tLst (tConsC (.str "abz") (tConsC (.str "abcdefghijklmnopqrstuvwxyz") tNil))) (tCall (sp_law_take K) [] E (tCons (tVar 0) (tConsC (.int 2) tNil)))) (gName 3))
    (tRet (tM1 (xJoin K) (tC (.str "")) (tLc (iRng1 (tCons (tVar 2) tNil)) (gName 4) tYes (tOp rIxS (tVar 3) (tCall (sp_law_take K) [] E0 (tCons (tVar 0) (tCons (tCB1 xLenS (tVar 3)) tNil)))) [4]))))))
theorem joinL_nil : ∀ ps : List (List Nat), TL.joinL [] ps = ps.flatten
  | [] => rfl
  | [p] => by simp [TL.joinL]
  | p :: q :: r => by
    show p ++ ([] ++ TL.joinL [] (q :: r)) = _
    rw [joinL_nil (q :: r)]
    simp
theorem join_signs (cs : List Nat) : Txt.join "" (cs.map fun c => (⟨#[c]⟩ : Str)) = ⟨cs.toArray⟩ := by
  apply str_ext
  have e := TL.tl_join "" (cs.map fun c => (⟨#[c]⟩ : Str))
  rw [TL.join_eq]
  show TL.tl (Str.join "" (cs.map fun c => (⟨#[c]⟩ : Str))) = cs
  rw [e]
  have e2 : TL.tl ("" : Str) = [] := by decide +kernel
  rw [e2, joinL_nil, List.map_map]
  clear e
  induction cs with
  | nil => rfl
  | cons c cs ih =>
    rw [List.map_cons, List.flatten_cons, ih]
    rfl
theorem sign_map (cs : List Nat) : (cs.map fun c => V.str ⟨#[c]⟩) = (cs.map fun c => (⟨#[c]⟩ : Str)).map V.str := by rw [List.map_map] <;> rfl
theorem sum_ones (cs : List Nat) : ((cs.map fun c => (⟨#[c]⟩ : Str)).map (·.length)).sum = cs.length := by
  induction cs with
  | nil => rfl
  | cons c cs ih => rw [List.map_cons, List.map_cons, List.sum_cons, ih, List.length_cons]; show 1 + _ = _; omega
theorem abz_letters : ∀ c ∈ ("abz" : Str).cps.toList, c ∈ letters := by decide +kernel
theorem abc_letters : ("abcdefghijklmnopqrstuvwxyz" : Str).cps.toList = letters := rfl
theorem pure_law_value {K : PySem.W.Frag} : ∀ vs H Q E, sp_law_value K vs H Q E → t_law_value K E { nx := fun _ H' => Q .non H', rt := Q } (start N_law_value vs) H := by
  intro vs H Q E h
  match vs, h with
  | [b, kv], h =>
    obtain ⟨a, l, kd, rfl, rfl, hkd, B, k⟩ := h
    obtain ⟨ns, st, ha, hl, _⟩ := B.ex
    refine ⟨_, rfl, rfl, _, rfl, ?_⟩
    rcases hkd with rfl | rfl
    · -- a number
      have e1 : decide (V.str "number" = V.str "number") = true := decide_eq_true rfl
      rw [e1]
      refine ⟨_, rfl, a, l, _, rfl, rfl, by decide, by decide, B, fun r1 H1 a0 a1 B1 k1 => ?_⟩
      refine ⟨_, rfl, a, l, _, rfl, rfl, by decide, by decide, B1, fun r2 H2 b0 b1 B2 k2 => ⟨_, _, rfl, rfl, ?_⟩⟩
      refine ⟨szle (by show 3 ≤ 100000; decide), fun p hp => ?_⟩
      have B2' := B2.same (Rs.Same.new (o := .lst [.int (-999), .int 999, .int 0]) hp)
      refine ⟨_, rfl, a, l, _, rfl, rfl, by decide, by decide, B2', fun r3 H3 c0 c1 B3 k3 => ?_⟩
      obtain ⟨_, _, ha2, hl2, _⟩ := B2.ex
      have hp3 := k3 _ _ upd_same (nn (ne_of_none ha2 hp).symm (ne_of_none hl2 hp).symm)
      have k13 : But [a, l] H H3 := (k1.trans k2).trans ((But.same (Rs.Same.new hp)).trans k3)
      have last : ∀ z : Int, -999 ≤ z → z ≤ 999 → ∀ x y : Int, r1 = x → r2 - 999 = y → 3 ≤ sizeLine ∧ ∀ p', H3 p' = none → (tCall (sp_law_take K) [] E (tCons (tVar 0) (tConsC (.int 3) tNil))) [some (.ref a), some (.str "number"), none, none, none] (upd H3 p' (.lst [.int x, .int y, .int z])) fun y H4 => rIxL K (.ref p') y H4 Q := fun z z0 z1 x y ex ey => by
        refine ⟨szle (by show 3 ≤ 100000; decide), fun p' hp' => ?_⟩
        have B3' := B3.same (Rs.Same.new (o := .lst [.int x, .int y, .int z]) hp')
        refine ⟨_, rfl, a, l, _, rfl, rfl, by decide, by decide, B3', fun r4 H4 d0 d1 B4 k4 => ?_⟩
        obtain ⟨_, _, ha3, hl3, _⟩ := B3.ex
        have hp4 := k4 _ _ upd_same (nn (ne_of_none ha3 hp').symm (ne_of_none hl3 hp').symm)
        have k14 : But [a, l] H H4 := k13.trans ((But.same (Rs.Same.new hp')).trans k4)
        have fin : ∀ i : Int, -999 ≤ i → i ≤ 999 → Q (.int i) H4 := fun i i0 i1 => k (.inl i) H4 (by simp [isValue, i0, i1]; decide +kernel) B4 k14
        rcases pick3 d0 d1 with rfl | rfl | rfl
        · exact ixL hp4 (j := 0) rfl rfl (fin _ (by omega) (by omega))
        · exact ixL hp4 (j := 1) rfl rfl (fin _ (by omega) (by omega))
        · exact ixL hp4 (j := 2) rfl rfl (fin _ z0 z1)
      rcases pick3 c0 c1 with rfl | rfl | rfl
      · exact ixL hp3 (j := 0) rfl rfl (last _ (by decide) (by decide) _ _ rfl rfl)
      · exact ixL hp3 (j := 1) rfl rfl (last _ (by decide) (by decide) _ _ rfl rfl)
      · exact ixL hp3 (j := 2) rfl rfl (last _ (by decide) (by decide) _ _ rfl rfl)
    · -- a word
      have e1 : decide (V.str "word" = V.str "number") = false := by decide +kernel
      rw [e1]
      refine ⟨_, rfl, pick_two (i := 0) rfl B fun z H1 hz B1 k1 => ?_⟩
      have one : ∀ m : Int, 0 < m → m ≤ 7 → z = .int m → (tNil (([some (.ref a), some (.str "word"), none, none, none] : List (Option V))) H1 fun xs H2 => sp_law_take K (.ref a :: z :: xs) H2 (fun v H3 => (tSeq (tAsg (tOp (rIxL K) (tLst (tConsC (.str "abz") (tConsC (.str "abcdefghijklmnopqrstuvwxyz") tNil))) (tCall (sp_law_take K) [] E (tCons (tVar 0) (tConsC (.int 2) tNil)))) (gName 3))
          (tRet (tM1 (xJoin K) (tC (.str "")) (tLc (iRng1 (tCons (tVar 2) tNil)) (gName 4) tYes (tOp rIxS (tVar 3) (tCall (sp_law_take K) [] E0 (tCons (tVar 0) (tCons (tCB xLenS (tCons (tVar 3) tNil)) tNil)))) [4])))) { nx := fun _ H' => Q .non H', rt := Q } ([some (.ref a), some (.str "word"), some v, none, none]) H3) E) := fun m m0 m7 em => by
        subst em
        refine ⟨a, l, m, rfl, rfl, m0, by omega, B1, fun n H2 n0 n1 B2 k2 => ?_⟩
        refine pick_two (i := 0) rfl B2 fun t H3 ht B3 k3 => ?_
        have k03 : But [a, l] H H3 := (k1.trans k2).trans k3
        obtain ⟨ls, el, hpos, hsz, hlet⟩ : ∃ ls : Str, t = .str ls ∧ 0 < ls.length ∧ ls.length ≤ 26 ∧ ∀ c ∈ ls.cps.toList, c ∈ letters := by
          rcases ht with rfl | rfl
          · exact ⟨_, rfl, by decide +kernel, by decide +kernel, abz_letters⟩
          · exact ⟨_, rfl, by decide +kernel, by decide +kernel, fun c h => h⟩
        subst el
        refine ⟨⟨_, rfl⟩, _, rfl, _, rfl, by omega, by omega, fun D hD => ?_⟩
        obtain ⟨_, _, ha3, hl3, _⟩ := B3.ex
        have nDa := (ne_of_none ha3 hD).symm
        have nDl := (ne_of_none hl3 hD).symm
        have hD0 : H D = none := none_of_but k03 hD (nn nDa nDl)
        refine lc_range (lo := 0) (n := n.toNat) (fun i H' => ∃ cs : List Nat, H' D = some (.lst (cs.map fun c => V.str ⟨#[c]⟩)) ∧ cs.length = i ∧ (∀ c ∈ cs, c ∈ letters) ∧ Box H' a l ∧ But [a, l] H H')
          ⟨[], upd_same, rfl, by simp, B3.same (Rs.Same.new hD), k03.new hD⟩ ?_ ?_
        · rintro i H' hi ⟨cs, hd, hlen, hall, B', k'⟩
          refine ⟨rfl, lc_yes ?_⟩
          refine ⟨_, rfl, _, rfl, _, rfl, _, rfl, szle (by omega), a, l, _, rfl, rfl, by omega, by omega, B', fun r H2 r0 r1 B2 k2 => ?_⟩
          have hd2 := k2 _ _ hd (nn nDa nDl)
          obtain ⟨j, rfl⟩ : ∃ j : Nat, r = (j : Int) := ⟨r.toNat, by omega⟩
          have hj : j < ls.cps.toList.length := by
            have : ls.length = ls.cps.toList.length := by simp [Str.length]
            omega
          refine ⟨_, _, _, rfl, rfl, szle (by omega), atI_nat (List.getElem?_eq_getElem hj), _, hd2, szlt (by rw [List.length_map]; omega), cs ++ [ls.cps.toList[j]], ?_, by simp [hlen], fun c hc => ?_, B2.keep (fun o e => up e nDa.symm) (fun o e => up e nDl.symm), (k'.trans k2).mut hD0⟩
          · rw [upd_same, List.map_append] <;> rfl
          · rcases List.mem_append.mp hc with h | h
            · exact hall c h
            · rw [List.mem_singleton.mp h]
              exact hlet _ (List.getElem_mem hj)
        · rintro H' ⟨cs, hd, hlen, hall, B', k'⟩
          refine ⟨_, D, (cs.map fun c => (⟨#[c]⟩ : Str)), rfl, rfl, .inl (SqL.of (by rw [hd, sign_map])), ?_, ?_⟩
          · rw [sum_ones]
            have e0 : ("" : Str).length = 0 := by decide +kernel
            rw [e0]
            omega
          · rw [join_signs]
            refine k (.inr ⟨cs.toArray⟩) H' ?_ B' k'
            simp only [isValue, Bool.and_eq_true, decide_eq_true_eq, List.all_eq_true]
            refine ⟨trivial, ?_, fun c hc => hall c (by simpa using hc)⟩
            show cs.toArray.size ≤ 6
            rw [List.size_toArray]
            omega
      rcases hz with rfl | rfl
      · exact one 3 (by decide) (by decide) rfl
      · exact one 7 (by decide) (by decide) rfl
abbrev N_law_pairs : List Str := ["_law_rows_here", "_law_k"]
abbrev P_law_pairs : List Str := ["_law_rows_here"]
/-- (number, row) as they come -/
def prs (rows : List Row) : List Pr := (List.range rows.length).map fun (i : Nat) => ((i : Int), rows.getD i [])
def sp_law_pairs (K : PySem.W.Frag) : Sp := fun vs H Q E => match vs with
  | [v] => ∃ rows, LstV RowAt H v rows ∧ rows.length ≤ 1000 ∧ ∀ p H', H p = none → Lst PairAt H' p (prs rows) → Same H H' → Q (.ref p) H'
  | _ => False
def t_law_pairs (K : PySem.W.Frag) (E : XK) : TS := (tRet (tLc (iRng1 (tCons (tCB1 (xLen K) (tVar 0)) tNil)) (gName 1) tYes (tTup (tCons (tVar 1) (tCons (tOp (rIxL K) (tVar 0) (tVar 1)) tNil))) [1]))
theorem prs_take {rows : List Row} {i : Nat} {r : Row} (h : rows[i]? = some r) : ((List.range (i + 1)).map fun (i : Nat) => ((i : Int), rows.getD i [])) = ((List.range i).map fun (i : Nat) => ((i : Int), rows.getD i [])) ++ [((i : Int), r)] := by
  rw [List.range_succ, List.map_append]
  simp only [List.map_cons, List.map_nil]
  rw [List.getD_eq_getElem?_getD, h]
  rfl
theorem pure_law_pairs {K : PySem.W.Frag} : ∀ vs H Q E, sp_law_pairs K vs H Q E → t_law_pairs K E { nx := fun _ H' => Q .non H', rt := Q } (start N_law_pairs vs) H := by
  intro vs H Q E h
  match vs, h with
  | [v], h =>
    obtain ⟨rows, ⟨lr, rfl, rv, hr, hrows⟩, hlen, k⟩ := h
    have hl := hrows.length
    refine ⟨_, rfl, _, _, rfl, .inl (SqL.of hr), _, rfl, by omega, by omega, fun D hD => ?_⟩
    refine lc_range (lo := 0) (n := (rv.length : Int).toNat) (fun i H' => ∃ vs, H' D = some (.lst vs) ∧ Paired (PairAt H') vs ((List.range i).map fun (i : Nat) => ((i : Int), rows.getD i [])) ∧ Same H H') ⟨[], upd_same, .nil, Rs.Same.new hD⟩ ?_ ?_
    · rintro i H' hi ⟨vs, hd, hp, s⟩
      have hi' : i < rows.length := by omega
      obtain ⟨w, hw, hra⟩ := P2.get' hrows (List.getElem?_eq_getElem hi')
      refine ⟨rfl, lc_yes ⟨_, rfl, _, rfl, _, rfl, _, _, _, _, rfl, rfl, SqL.of (s _ _ hr), at_of (j := i) (by omega) hw, szle (by show 2 ≤ 100000; decide), fun t ht => ?_⟩⟩
      have hdt := un (u := .tup [.int (0 + (i : Int)), w]) hd ht
      refine ⟨_, hdt, szlt (by have := hp.length; simp at this; omega), vs ++ [.ref t], upd_same, ?_, Rs.Same.mut (s.trans (Rs.Same.new ht)) hD⟩
      have tt : TupLe H' (upd (upd H' t (.tup [.int (0 + (i : Int)), w])) D (.lst (vs ++ [.ref t]))) := (TupLe.new ht).list hdt
      have th : TupLe H (upd (upd H' t (.tup [.int (0 + (i : Int)), w])) D (.lst (vs ++ [.ref t]))) := (TupLe.same s).trans tt
      rw [prs_take (List.getElem?_eq_getElem hi')]
      refine P2.app (Paired.tl PairAt.st tt hp) (P2.one ⟨w, ⟨t, rfl, ?_⟩, RowAt.st _ _ _ _ th hra⟩)
      rw [upd_ne (ne_of_none hd ht).symm, upd_same]
      have z : (0 + (i : Int)) = i := by omega
      rw [z]
    · rintro H' ⟨vs, hd, hp, s⟩
      refine k D H' hD ⟨vs, hd, ?_⟩ s
      have e : (rv.length : Int).toNat = rows.length := by omega
      rw [e] at hp
      exact hp
abbrev N_law_ahead : List Str := ["_law_order_here", "_law_one", "_law_other", "_law_column", "_law_way", "_law_mine", "_law_theirs"]
abbrev P_law_ahead : List Str := ["_law_order_here", "_law_one", "_law_other"]
def sp_law_ahead (K : PySem.W.Frag) : Sp := sp_is_before K
def t_law_ahead (K : PySem.W.Frag) (E : XK) : TS := (tSeq (tFor (iList K (tVar 0)) (gTup K 2 (gCons (gName 3) (gCons (gName 4) gNil))) 
    (tSeq (tPar 5 6 (tCons (tOp (rIxT K) (tOpC (rIxT K) (tVar 1) (.int 1)) (tVar 3)) (tCons (tOp (rIxT K) (tOpC (rIxT K) (tVar 2) (.int 1)) (tVar 3)) tNil)))
    (tIfS (tTest (tOp rNe (tVar 5) (tVar 6))) (tRet (tIf (tTest (tOpC rEq (tVar 4) (.str "up"))) (tOp xLtV (tVar 5) (tVar 6)) (tOp xGtV (tVar 5) (tVar 6)))) tNext)))
  (tRet (tOp xLt (tOpC (rIxT K) (tVar 1) (.int 0)) (tOpC (rIxT K) (tVar 2) (.int 0)))))
theorem pure_law_ahead {K : PySem.W.Frag} : ∀ vs H Q E, sp_law_ahead K vs H Q E → t_law_ahead K E { nx := fun _ H' => Q .non H', rt := Q } (start N_law_ahead vs) H := by
  intro vs H Q E h
  unfold sp_law_ahead at h
  match vs, h with
  | [vo, a, b], h =>
    obtain ⟨o, p, q, ⟨lo, rfl, ts, hl, hts⟩, ⟨w1, ha, hr1⟩, ⟨w2, hb, hr2⟩, hc, k⟩ := h
    refine ⟨_, rfl, lo, rfl, ⟨_, SqL.of hl⟩, for_list (K := K) (a := lo) (xs := ts) (fun i σ H' => ∃ x3 x4 x5 x6, σ = [some (.ref lo), some a, some b, x3, x4, x5, x6] ∧ H' = H ∧ before o p q = before (o.drop i) p q) ⟨none, none, none, none, rfl, rfl, rfl⟩ ?_ ?_ ?_⟩
    · rintro i σ H' _ ⟨_, _, _, _, _, rfl, _⟩
      exact SqL.of hl
    · rintro i v σ H' hi ⟨x3, x4, x5, x6, rfl, rfl, he⟩
      obtain ⟨t, ht, at_, rfl, et⟩ := P2.get hts hi
      have hd : o.drop i = t :: o.drop (i + 1) := drop_cons ht
      obtain ⟨c1, c2, c3⟩ := hc t (List.mem_of_getElem? ht)
      refine ⟨at_, _, rfl, SqT.of et, rfl, _, _, rfl, _, _, rfl, rfl, ?_⟩
      refine ⟨_, rfl, ixT ha (j := 1) rfl rfl ⟨_, rfl, ixT hr1 (j := t.1) rfl (by rw [List.getElem?_map, kcol_get c1]; rfl) ⟨_, rfl, ixT hb (j := 1) rfl rfl ⟨_, rfl, ixT hr2 (j := t.1) rfl (by rw [List.getElem?_map, kcol_get c2]; rfl) ⟨_, _, rfl, _, rfl, _, rfl, kV_scal c3, _, rfl, ?_⟩⟩⟩⟩⟩
      rw [kV_dec]
      rw [hd, before_cons] at he
      by_cases e : kcol p.2 t.1 = kcol q.2 t.1
      · rw [decide_eq_true e]
        rw [if_pos e] at he
        exact ⟨_, _, _, _, rfl, rfl, he⟩
      · rw [decide_eq_false e]
        rw [if_neg e] at he
        refine ⟨_, rfl, rfl, _, rfl, ?_⟩
        rw [way_eq]
        rw [he] at k
        cases hw : t.2 with
        | true =>
          rw [hw] at k
          refine ⟨_, rfl, _, rfl, ltV_go c3 ?_⟩
          have z : (keyLt (kcol p.2 t.1) (kcol q.2 t.1) == true) = keyLt (kcol p.2 t.1) (kcol q.2 t.1) := by cases keyLt (kcol p.2 t.1) (kcol q.2 t.1) <;> rfl
          rw [z] at k
          exact k
        | false =>
          rw [hw] at k
          refine ⟨_, rfl, _, rfl, gtV_go c3 ?_⟩
          rw [keyLt_tot c3 e]
          have z : (keyLt (kcol p.2 t.1) (kcol q.2 t.1) == false) = !keyLt (kcol p.2 t.1) (kcol q.2 t.1) := by cases keyLt (kcol p.2 t.1) (kcol q.2 t.1) <;> rfl
          rw [z] at k
          exact k
    · rintro σ H' ⟨x3, x4, x5, x6, rfl, rfl, he⟩
      have e0 : before o p q = decide (p.1 < q.1) := by rw [he, List.drop_of_length_le (by rw [← hts.length]; exact Nat.le_refl _)]; rfl
      rw [e0] at k
      exact ⟨_, rfl, ixT ha (j := 0) rfl rfl ⟨_, rfl, ixT hb (j := 0) rfl rfl ⟨_, _, rfl, rfl, k⟩⟩⟩
abbrev N_law_rows : List Str := ["_law_box", "_law_kinds_here", "_law_most", "_law_found", "_law_way", "_law_turn", "_law_row", "_law_kind"]
abbrev P_law_rows : List Str := ["_law_box", "_law_kinds_here", "_law_most"]
def sp_law_rows (K : PySem.W.Frag) : Sp := fun vs H Q E => match vs with
  | [b, kv, m] => ∃ a l ks n, b = .ref a ∧ m = .int n ∧ 0 ≤ n ∧ n ≤ 1000 ∧ Box H a l ∧ KindsAt H kv ks ∧ GoodKinds ks ∧
    ∀ f rows H', H f = none → Lst RowAt H' f rows → (∀ r ∈ rows, isRow ks r = true) → (rows.length : Int) ≤ n → Box H' a l → But [a, l] H H' → Q (.ref f) H'
  | _ => False
def t_law_rows (K : PySem.W.Frag) (E : XK) : TS := (tSeq (tAsg (tLst tNil) (gName 3))
  (tSeq (tAsg (tCall (sp_law_take K) [] E (tCons (tVar 0) (tConsC (.int 4) tNil))) (gName 4))
   (tSeq (tFor (iRng1 (tCons (tCall (sp_law_take K) [] E (tCons (tVar 0) (tCons (tOpC xAdd (tVar 2) (.int 1)) tNil))) tNil)) (gName 5) 
      (tSeq (tAsg (tLc (iTup K (tVar 1)) (gName 7) tYes (tCall (sp_law_value K) [] E0 (tCons (tVar 0) (tCons (tVar 7) tNil))) [7]) (gName 6))
      (tSeq (tIfS (tAnd (tTest (tOp (xNeE K) (tVar 3) (tLst tNil))) (tTest (tOpC rEq (tCall (sp_law_take K) [] E (tCons (tVar 0) (tConsC (.int 3) tNil))) (.int 0)))) (tAsg (tCB1 (xList K) (tOp (rIxL K) (tVar 3) (tCall (sp_law_take K) [] E (tCons (tVar 0) (tCons (tCB1 (xLen K) (tVar 3)) tNil))))) (gName 6)) tNext)
       (tSeq (tIfS (tAnd (tTest (tOp (xNeE K) (tVar 3) (tLst tNil))) (tAnd (tTest (tOpC xLt (tVar 4) (.int 2))) (tTest (tOpC rEq (tOpC (rIxT K) (tVar 1) (.int 0)) (.str "number"))))) (tAsg (tCB xMax2 (tConsC (.int (-999)) (tCons (tCB xMin2 (tConsC (.int 999) (tCons (tOp xAdd (tOpC (rIxT K) (tOpC (rIxL K) (tVar 3) (.int (-1))) (.int 0)) (tOp xMul (tOp (rIxL K) (tLst (tConsC (.int 1) (tConsC (.int (-1)) tNil))) (tVar 4)) (tCall (sp_law_take K) [] E (tCons (tVar 0) (tConsC (.int 3) tNil))))) tNil))) tNil))) (gSubC (tVar 6) (.int 0) rSetL)) tNext)
        (tDrop (tBM K "list" rAppend (tVar 3) (tCons (tCB1 (xTuple K) (tVar 6)) tNil)))))))
    (tRet (tVar 3)))))
theorem isRow_of {ks : List Str} {r : Row} (h1 : r.length = ks.length) (h2 : ∀ i, i < ks.length → isValue (ks.getD i "") (kcol r i) = true) : isRow ks r = true := by
  unfold isRow
  simp only [Bool.and_eq_true, decide_eq_true_eq, List.all_eq_true, List.mem_range]
  exact ⟨h1, h2⟩
theorem kcol_append {r : Row} {x : Key} {i : Nat} : kcol (r ++ [x]) i = if i < r.length then kcol r i else if i = r.length then x else .inl 0 := by
  unfold kcol
  rw [List.getD_eq_getElem?_getD, List.getD_eq_getElem?_getD, List.getElem?_append]
  by_cases h : i < r.length
  · rw [if_pos h, if_pos h]
  · rw [if_neg h, if_neg h]
    by_cases e : i = r.length
    · subst e
      simp
    · rw [if_neg e, List.getElem?_eq_none (by simp; omega)]
      rfl
theorem kcol_set {r : Row} {x : Key} (h : 0 < r.length) (i : Nat) : kcol (r.set 0 x) i = if i = 0 then x else kcol r i := by
  unfold kcol
  rw [List.getD_eq_getElem?_getD, List.getD_eq_getElem?_getD]
  by_cases e : i = 0
  · subst e
    rw [if_pos rfl, List.getElem?_set_self h]
    rfl
  · rw [if_neg e, List.getElem?_set_ne (by omega)]
theorem pure_law_rows {K : PySem.W.Frag} : ∀ vs H Q E, sp_law_rows K vs H Q E → t_law_rows K E { nx := fun _ H' => Q .non H', rt := Q } (start N_law_rows vs) H := by
  intro vs H Q E h
  match vs, h with
  | [b, kv, m], h =>
    obtain ⟨a, l, ks, n, rfl, rfl, hn0, hn, B, ⟨kt, rfl, hkt⟩, gk, k⟩ := h
    obtain ⟨_, _, ha, hl, _⟩ := B.ex
    have g1 := gk.pos
    have g4 := gk.le
    refine ⟨sz0, fun f hf => ?_⟩
    have fa := (ne_of_none ha hf).symm
    have fl := (ne_of_none hl hf).symm
    refine ⟨_, rfl, a, l, _, rfl, rfl, by decide, by decide, B.same (Rs.Same.new hf), fun way H1 w0 w4 B1 k1 => ?_⟩
    refine ⟨_, rfl, _, rfl, _, _, rfl, rfl, a, l, _, rfl, rfl, by omega, by omega, B1, fun many H2 m0 m1 B2 k2 => ⟨_, rfl, by omega, by omega, ?_⟩⟩
    refine for_range (lo := 0) (n := many.toNat) (fun i σ H' => ∃ (rows : List Row) (x5 x6 : Option V), σ = [some (.ref a), some (.ref kt), some (.int n), some (.ref f), some (.int way), x5, x6, none] ∧ Lst RowAt H' f rows ∧ (∀ r ∈ rows, isRow ks r = true) ∧ rows.length = i ∧ Box H' a l ∧ But [a, l] H H') ?_ ?_ ?_
    · exact ⟨[], none, none, rfl, ⟨[], k2 _ _ (k1 _ _ upd_same (nn fa fl)) (nn fa fl), .nil⟩, by simp, rfl, B2, (But.same (Rs.Same.new hf)).trans (k1.trans k2)⟩
    · rintro i σ H' hi ⟨rows, x5, x6, rfl, ⟨fv, hf', hrows⟩, hall, hlen, B', k'⟩
      have flen := hrows.length
      -- the row: a comprehension
      have kt' : ∀ {H'' : Hp}, But [a, l] H H'' → H'' kt = some (.tup (ks.map V.str)) := fun kk => kk _ _ hkt (nn (ne_of hkt ha (by intro z; cases z)) (ne_of hkt hl (by intro z; cases z)))
      refine ⟨_, rfl, kt, rfl, ⟨_, SqT.of (kt' k')⟩, fun D hD => ?_⟩
      obtain ⟨_, _, ha', hl', _⟩ := B'.ex
      have Da := (ne_of_none ha' hD).symm
      have Dl := (ne_of_none hl' hD).symm
      have Df := (ne_of_none hf' hD).symm
      have hD0 : H D = none := none_of_but k' hD (nn Da Dl)
      refine lc_tup (K := K) (a := kt) (xs := ks.map V.str) (fun j H2 => ∃ r : Row, H2 D = some (.lst (r.map kV)) ∧ r.length = j ∧ (∀ c, c < j → isValue (ks.getD c "") (kcol r c) = true) ∧ Box H2 a l ∧ But [a, l] H' H2)
        ⟨[], upd_same, rfl, fun c h => absurd h (Nat.not_lt_zero _), B'.same (Rs.Same.new hD), But.same (Rs.Same.new hD)⟩ ?_ ?_ ?_
      · rintro j H2 _ ⟨r, _, _, _, _, k2⟩
        exact SqT.of (kt' (k'.trans k2))
      · rintro j v H2 hj ⟨r, hd, hrl, hrv, B2, k2⟩
        rw [List.getElem?_map] at hj
        obtain ⟨kd, hkd, rfl⟩ := Option.map_eq_some_iff.mp hj
        have hjl := (List.getElem?_eq_some_iff.mp hkd).1
        refine ⟨rfl, lc_yes ⟨_, rfl, _, rfl, a, l, kd, rfl, rfl, gk.all kd (List.mem_of_getElem? hkd), B2, fun x H3 hx B3 k3 => ?_⟩⟩
        have hd3 := k3 _ _ hd (nn Da Dl)
        refine ⟨_, hd3, szlt (by rw [List.length_map]; omega), r ++ [x], by rw [upd_same, List.map_append] <;> rfl, by simp [hrl], fun c hc => ?_, B3.keep (fun o e => up e Da.symm) (fun o e => up e Dl.symm), (k2.trans k3).mut hD⟩
        rw [kcol_append]
        by_cases e : c < r.length
        · rw [if_pos e]
          exact hrv c (by omega)
        · rw [if_neg e, if_pos (by omega)]
          have : c = j := by omega
          subst this
          rw [List.getD_eq_getElem?_getD, hkd]
          exact hx
      · rintro H2 ⟨r, hd, hrl, hrv, B2, k2⟩
        rw [List.length_map] at hrl hrv
        have hf2 := k2 _ _ hf' (nn fa fl)
        have goodr : isRow ks r = true := isRow_of hrl hrv
        have kk2 : But [a, l] H H2 := k'.trans k2
        have rows2 : Paired (RowAt H2) fv rows := Paired.tl RowAt.st (B'.tup k2) hrows
        -- told again, or not
        have again : ∀ (D : Addr) (r : Row) (H2 : Hp), H D = none → D ≠ a → D ≠ l → D ≠ f → H2 D = some (.lst (r.map kV)) → isRow ks r = true → Box H2 a l → But [a, l] H H2 → H2 f = some (.lst fv) → Paired (RowAt H2) fv rows →
            ((tSeq (tIfS (tAnd (tTest (tOp (xNeE K) (tVar 3) (tLst tNil))) (tAnd (tTest (tOpC xLt (tVar 4) (.int 2))) (tTest (tOpC rEq (tOpC (rIxT K) (tVar 1) (.int 0)) (.str "number"))))) (tAsg (tCB xMax2 (tConsC (.int (-999)) (tCons (tCB xMin2 (tConsC (.int 999) (tCons (tOp xAdd (tOpC (rIxT K) (tOpC (rIxL K) (tVar 3) (.int (-1))) (.int 0)) (tOp xMul (tOp (rIxL K) (tLst (tConsC (.int 1) (tConsC (.int (-1)) tNil))) (tVar 4)) (tCall (sp_law_take K) [] E (tCons (tVar 0) (tConsC (.int 3) tNil))))) tNil))) tNil))) (gSubC (tVar 6) (.int 0) rSetL)) tNext)
              (tDrop (tBM K "list" rAppend (tVar 3) (tCons (tCB (xTuple K) (tCons (tVar 6) tNil)) tNil)))) : TS)
            { nx := fun σ H' => ∃ (rows : List Row) (x5 x6 : Option V), σ = [some (.ref a), some (.ref kt), some (.int n), some (.ref f), some (.int way), x5, x6, none] ∧ Lst RowAt H' f rows ∧ (∀ r ∈ rows, isRow ks r = true) ∧ rows.length = i + 1 ∧ Box H' a l ∧ But [a, l] H H',
              ct := fun σ H' => ∃ (rows : List Row) (x5 x6 : Option V), σ = [some (.ref a), some (.ref kt), some (.int n), some (.ref f), some (.int way), x5, x6, none] ∧ Lst RowAt H' f rows ∧ (∀ r ∈ rows, isRow ks r = true) ∧ rows.length = i + 1 ∧ Box H' a l ∧ But [a, l] H H',
              bk := (tRet (tVar 3)) { nx := fun _ H' => Q .non H', rt := Q }, rt := Q }
            [some (.ref a), some (.ref kt), some (.int n), some (.ref f), some (.int way), some (.int (0 + (i : Int))), some (.ref D), none] H2 := by
          intro D r H2 hD0 Da Dl Df hd hr B2 k2 hf2 rows2
          -- the last: f.append(tuple(row))
          have last : ∀ (r : Row) (H3 : Hp), H3 D = some (.lst (r.map kV)) → isRow ks r = true → Box H3 a l → But [a, l] H H3 → H3 f = some (.lst fv) → Paired (RowAt H3) fv rows → (tDrop (tBM K "list" rAppend (tVar 3) (tCons (tCB (xTuple K) (tCons (tVar 6) tNil)) tNil)))
              { nx := fun σ H' => ∃ (rows : List Row) (x5 x6 : Option V), σ = [some (.ref a), some (.ref kt), some (.int n), some (.ref f), some (.int way), x5, x6, none] ∧ Lst RowAt H' f rows ∧ (∀ r ∈ rows, isRow ks r = true) ∧ rows.length = i + 1 ∧ Box H' a l ∧ But [a, l] H H',
                ct := fun σ H' => ∃ (rows : List Row) (x5 x6 : Option V), σ = [some (.ref a), some (.ref kt), some (.int n), some (.ref f), some (.int way), x5, x6, none] ∧ Lst RowAt H' f rows ∧ (∀ r ∈ rows, isRow ks r = true) ∧ rows.length = i + 1 ∧ Box H' a l ∧ But [a, l] H H',
                bk := (tRet (tVar 3)) { nx := fun _ H' => Q .non H', rt := Q }, rt := Q }
              [some (.ref a), some (.ref kt), some (.int n), some (.ref f), some (.int way), some (.int (0 + (i : Int))), some (.ref D), none] H3 := by
            intro r H3 hd hr B3 k3 hf3 rows3
            refine ⟨_, rfl, .inl ⟨rfl, _, SqL.of hf3⟩, _, rfl, _, _, rfl, .inl ⟨SqL.of hd, fun t ht => ⟨_, _, _, rfl, rfl, un hf3 ht, szlt (by omega), ?_⟩⟩⟩
            have t3 : TupLe H3 (upd (upd H3 t (.tup (r.map kV))) f (.lst (fv ++ [.ref t]))) := (TupLe.new ht).list (un hf3 ht)
            refine ⟨rows ++ [r], _, _, rfl, ⟨_, upd_same, P2.app (Paired.tl RowAt.st t3 rows3) (P2.one ⟨t, rfl, ?_⟩)⟩, fun x hx => ?_, by simp [hlen], (B3.same (Rs.Same.new ht)).keep (fun o e => up e fa.symm) (fun o e => up e fl.symm), (k3.new ht).mut hf⟩
            · rw [upd_ne (ne_of_none hf3 ht).symm]
              exact upd_same
            · rcases List.mem_append.mp hx with h | h
              · exact hall x h
              · rw [List.mem_singleton.mp h]
                exact hr
          -- the test
          refine ⟨_, rfl, sz0, fun p hp => neE hf2 hp (b := !fv.isEmpty) rfl ⟨_, rfl, ?_⟩⟩
          have B2' := B2.same (Rs.Same.new (o := .lst []) hp)
          have k2' := k2.new (o := .lst []) hp
          have hf2' : upd H2 p (.lst []) f = _ := un hf2 hp
          have hd' : upd H2 p (.lst []) D = _ := un hd hp
          have rows2' := Paired.tl RowAt.st (TupLe.new (o := .lst []) hp) rows2
          cases hfe : fv with
          | nil =>
            subst hfe
            exact last r _ hd' hr B2' k2' hf2' rows2'
          | cons f0 fr =>
            rw [← hfe]
            have en : (!fv.isEmpty) = true := by rw [hfe]; rfl
            rw [en]
            refine ⟨_, rfl, _, _, rfl, rfl, _, rfl, ?_⟩
            by_cases hw : way < 2
            · rw [decide_eq_true hw]
              have hk0 : (ks.map V.str)[0]? = some (V.str (ks[0]'(by omega))) := by rw [List.getElem?_map, List.getElem?_eq_getElem (by omega)] <;> rfl
              refine ⟨_, rfl, ixT ⟨kt, rfl, kt' k2'⟩ (j := 0) rfl hk0 ⟨rfl, _, rfl, ?_⟩⟩
              by_cases hnum : ks[0]'(by omega) = "number"
              · rw [hnum]
                have ed : decide (V.str "number" = V.str "number") = true := decide_eq_true rfl
                rw [ed]
                -- the row ahead
                obtain ⟨fl0, v, efv⟩ : ∃ (l : List V) (v : V), fv = l ++ [v] := ⟨fv.dropLast, fv.getLast (by rw [hfe]; simp), (List.dropLast_concat_getLast _).symm⟩
                obtain ⟨rl0, rv, erw⟩ : ∃ (l : List Row) (v : Row), rows = l ++ [v] := by
                  have hne : rows ≠ [] := by intro e; rw [e, hfe] at flen; simp at flen
                  exact ⟨rows.dropLast, rows.getLast hne, (List.dropLast_concat_getLast _).symm⟩
                have hvr : RowAt (upd H2 p (.lst [])) v rv := by
                  rw [efv, erw] at rows2'
                  exact P2.last rows2'
                have grv : isRow ks rv = true := hall rv (by rw [erw]; simp)
                have rvl := isRow_len grv
                have v0 := isRow_val grv (i := 0) (by omega)
                have ek : ks.getD 0 "" = "number" := by rw [List.getD_eq_getElem?_getD, List.getElem?_eq_getElem (by omega)]; exact hnum
                rw [ek] at v0
                obtain ⟨z, ez⟩ : ∃ z : Int, kcol rv 0 = .inl z := by
                  cases e : kcol rv 0 with
                  | inl z => exact ⟨z, rfl⟩
                  | inr s =>
                    rw [e] at v0
                    exact absurd v0 (by simp [isValue]; intro h; exact absurd h (by decide +kernel))
                have hf2'' : upd H2 p (.lst []) f = some (.lst (fl0 ++ [v])) := by rw [hf2', efv]
                refine ⟨_, rfl, ixLast hf2'' (ixT hvr (j := 0) rfl (by rw [List.getElem?_map, kcol_get (by omega), ez]; rfl) ?_)⟩
                refine ⟨szle (by show 2 ≤ 100000; decide), fun q hq => ⟨_, rfl, ?_⟩⟩
                have hix : ∃ s : Int, ([V.int 1, V.int (-1)] : List V)[way.toNat]? = some (.int s) ∧ (s = 1 ∨ s = -1) := by
                  rcases pick2 w0 hw with rfl | rfl
                  · exact ⟨1, rfl, .inl rfl⟩
                  · exact ⟨-1, rfl, .inr rfl⟩
                obtain ⟨s, hs, hs1⟩ := hix
                refine ixL upd_same (j := way.toNat) (by omega) hs ?_
                refine ⟨_, rfl, a, l, _, rfl, rfl, by decide, by decide, B2'.same (Rs.Same.new hq), fun g H3 g0 g1 B3 k3 => ?_⟩
                refine ⟨s, g, rfl, rfl, .inl ⟨by omega, by omega⟩, _, _, rfl, rfl, _, _, rfl, _, _, rfl, ?_⟩
                have hd3 := k3 _ _ (un hd' hq) (nn Da Dl)
                have hf3 := k3 _ _ (un hf2' hq) (nn fa fl)
                have rl := isRow_len hr
                refine ⟨_, rfl, _, _, _, 0, rfl, rfl, hd3, ixN_zero' (by rw [List.length_map]; omega), ?_⟩
                obtain ⟨zz, ezz, z1, z2⟩ : ∃ zz : Int, (if (if z + s * g < 999 then z + s * g else 999) > -999 then (if z + s * g < 999 then z + s * g else 999) else -999) = zz ∧ -999 ≤ zz ∧ zz ≤ 999 := by
                  refine ⟨_, rfl, ?_, ?_⟩ <;> split <;> (try split) <;> omega
                rw [ezz]
                have t3 : TupLe (upd H2 p (.lst [])) (upd H3 D (.lst ((r.map kV).set 0 (.int zz)))) := ((TupLe.new (o := .lst [.int 1, .int (-1)]) hq).trans ((B2'.same (Rs.Same.new hq)).tup k3)).list hd3
                refine last (r.set 0 (.inl zz)) _ (by rw [upd_same, List.map_set] <;> rfl) (isRow_of (by rw [List.length_set]; exact rl) fun c hc => ?_) (B3.keep (fun o e => up e Da.symm) (fun o e => up e Dl.symm)) ((k2'.trans ((But.same (Rs.Same.new hq)).trans k3)).mut hD0) (up hf3 Df.symm) (Paired.tl RowAt.st t3 rows2')
                rw [kcol_set (by omega)]
                by_cases ec : c = 0
                · subst ec
                  rw [if_pos rfl, ek]
                  simp [isValue, z1, z2]
                  decide +kernel
                · rw [if_neg ec]
                  exact isRow_val hr hc
              · have ed : decide (V.str (ks[0]'(by omega)) = V.str "number") = false := decide_eq_false fun e => hnum (by injection e)
                rw [ed]
                exact last r _ hd' hr B2' k2' hf2' rows2'
            · rw [decide_eq_false hw]
              exact last r _ hd' hr B2' k2' hf2' rows2'
        refine ⟨_, rfl, sz0, fun p hp => neE hf2 hp (b := !fv.isEmpty) rfl ⟨_, rfl, ?_⟩⟩
        have B2' := B2.same (Rs.Same.new (o := .lst []) hp)
        have k2' := kk2.new (o := .lst []) hp
        have hf2' : upd H2 p (.lst []) f = _ := un hf2 hp
        have hd' : upd H2 p (.lst []) D = _ := un hd hp
        have rows2' := Paired.tl RowAt.st (TupLe.new (o := .lst []) hp) rows2
        cases hfe : fv with
        | nil =>
          subst hfe
          exact again D r _ hD0 Da Dl Df hd' goodr B2' k2' hf2' rows2'
        | cons f0 fr =>
          rw [← hfe]
          have en : (!fv.isEmpty) = true := by rw [hfe]; rfl
          rw [en]
          refine ⟨_, rfl, a, l, _, rfl, rfl, by decide, by decide, B2', fun g H3 g0 g1 B3 k3 => ⟨rfl, _, rfl, ?_⟩⟩
          have hf3 := k3 _ _ hf2' (nn fa fl)
          have hd3 := k3 _ _ hd' (nn Da Dl)
          have rows3 := Paired.tl RowAt.st (B2'.tup k3) rows2'
          have fpos : 0 < fv.length := by rw [hfe]; simp
          by_cases hg : V.int g = .int 0
          · rw [decide_eq_true hg]
            refine ⟨_, rfl, _, rfl, _, rfl, _, _, rfl, .inl (SqL.of hf3), a, l, _, rfl, rfl, by omega, by omega, B3, fun g2 H4 g20 g21 B4 k4 => ?_⟩
            obtain ⟨j, rfl⟩ : ∃ j : Nat, g2 = (j : Int) := ⟨g2.toNat, by omega⟩
            have hf4 := k4 _ _ hf3 (nn fa fl)
            have rows4 := Paired.tl RowAt.st (B3.tup k4) rows3
            have hj : j < fv.length := by omega
            obtain ⟨rw_, hrw, ⟨tw, ew, htw⟩⟩ := P2.get rows4 (List.getElem?_eq_getElem hj)
            refine ixL hf4 (j := j) rfl (List.getElem?_eq_getElem hj) ?_
            rw [ew]
            refine ⟨_, _, rfl, .inr (SqT.of htw), fun d hd4 => ?_⟩
            have k04 : But [a, l] H H4 := k2'.trans (k3.trans k4)
            obtain ⟨_, _, ha4, hl4, _⟩ := B4.ex
            have da := (ne_of_none ha4 hd4).symm
            have dl := (ne_of_none hl4 hd4).symm
            exact again d rw_ _ (none_of_but k04 hd4 (nn da dl)) da dl (ne_of_none hf4 hd4).symm upd_same (hall _ (List.mem_of_getElem? hrw)) (B4.same (Rs.Same.new hd4)) (k04.new hd4) (un hf4 hd4) (Paired.tl RowAt.st (TupLe.new hd4) rows4)
          · rw [decide_eq_false hg]
            exact again D r _ hD0 Da Dl Df hd3 goodr B3 (k2'.trans k3) hf3 rows3
    · rintro σ H' ⟨rows, x5, x6, rfl, hf', hall, hlen, B', k'⟩
      exact ⟨_, rfl, k f rows H' hf hf' hall (by omega) B' k'⟩
end Rs

namespace Rs
open PySem PySem.Spec PyProof.Rows L2
abbrev N_need_kinds : List Str := ["kinds", "kind"]
abbrev P_need_kinds : List Str := ["kinds"]
def sp_need_kinds (K : PySem.W.Frag) : Sp := fun vs H Q E => match vs with
  | [kv] => ∃ ks, KindsAt H kv ks ∧ GoodKinds ks ∧ ∀ H', Same H H' → Q .non H'
  | _ => False
def t_need_kinds (K : PySem.W.Frag) (E : XK) : TS := (tIfS (tOr (tNot (tTest (tChain xLe xLe (tC (.int 1)) (tCB1 (xLen K) (tVar 0)) (tC (.int 4))))) (tTest (tOp (xNeE K) (tLc (iTup K (tVar 0)) (gName 1) (tTest (tOp (rIn K true) (tVar 1) (tTup (tConsC (.str "number") (tConsC (.str "word") tNil))))) (tVar 1) [1]) (tLst tNil)))) tNever tNext)
theorem in_two {x s t : Str} : inV (.str x) [.str s, .str t] = (decide (s = x) || decide (t = x)) := by
  unfold inV
  show (eqV (.str s) (.str x) || (eqV (.str t) (.str x) || false)) = _
  rw [Bool.or_false]
  have e : ∀ a b : Str, eqV (.str a) (.str b) = decide (a = b) := fun a b => rfl
  rw [e, e]
theorem pure_need_kinds {K : PySem.W.Frag} : ∀ vs H Q E, sp_need_kinds K vs H Q E → t_need_kinds K E { nx := fun _ H' => Q .non H', rt := Q } (start N_need_kinds vs) H := by
  intro vs H Q E h
  match vs, h with
  | [kv], h =>
    obtain ⟨ks, ⟨kt, rfl, hkt⟩, gk, k⟩ := h
    have g1 := gk.pos
    have g4 := gk.le
    refine ⟨_, rfl, _, _, rfl, .inr (SqT.of hkt), _, _, rfl, rfl, _, rfl, ?_⟩
    rw [List.length_map, decide_eq_true (show (1 : Int) ≤ (ks.length : Int) by omega)]
    refine ⟨_, _, rfl, rfl, _, rfl, ?_⟩
    rw [decide_eq_true (show (ks.length : Int) ≤ 4 by omega)]
    refine ⟨_, rfl, kt, rfl, ⟨_, SqT.of hkt⟩, fun D hD => ?_⟩
    refine lc_tup (K := K) (a := kt) (xs := ks.map V.str) (fun j H2 => H2 D = some (.lst []) ∧ Same H H2) ⟨upd_same, Rs.Same.new hD⟩ ?_ ?_ ?_
    · rintro j H2 _ ⟨_, s⟩
      exact SqT.of (s _ _ hkt)
    · rintro j v H2 hj ⟨hd, s⟩
      rw [List.getElem?_map] at hj
      obtain ⟨kd, hkd, rfl⟩ := Option.map_eq_some_iff.mp hj
      refine ⟨rfl, _, rfl, szle (by show 2 ≤ 100000; decide), fun p hp => ⟨p, _, rfl, .inr (SqT.of upd_same), rfl, rfl, _, rfl, ?_⟩⟩
      have e : inV (.str kd) [.str "number", .str "word"] = true := by
        rw [in_two]
        rcases gk.all kd (List.mem_of_getElem? hkd) with rfl | rfl
        · rw [decide_eq_true rfl]; rfl
        · rw [decide_eq_true (p := ("word" : Str) = "word") rfl, Bool.or_true]
      rw [e]
      exact ⟨un hd hp, s.trans (Rs.Same.new hp)⟩
    · rintro H2 ⟨hd, s⟩
      refine ⟨sz0, fun p hp => neE hd hp (b := false) rfl ⟨_, rfl, ?_⟩⟩
      exact k _ (s.trans (Rs.Same.new hp))
abbrev N_is_turn : List Str := ["kinds", "turn"]
abbrev P_is_turn : List Str := ["kinds", "turn"]
def sp_is_turn (K : PySem.W.Frag) : Sp := fun vs H Q E => match vs with
  | [kv, tv] => ∃ (ks : List Str) (t : Nat × Bool), KindsAt H kv ks ∧ TurnAt H tv t ∧ t.1 < ks.length ∧ ∀ H', Same H H' → Q (.bl true) H'
  | _ => False
def t_is_turn (K : PySem.W.Frag) (E : XK) : TS := (tRet (tAndV (tOpC rEq (tCB1 (xLen K) (tVar 1)) (.int 2)) (tAndV (tChain xLe xLt (tC (.int 0)) (tOpC (rIxT K) (tVar 1) (.int 0)) (tCB1 (xLen K) (tVar 0))) (tOp (rIn K false) (tOpC (rIxT K) (tVar 1) (.int 1)) (tTup (tConsC (.str "up") (tConsC (.str "down") tNil)))))))
theorem pure_is_turn {K : PySem.W.Frag} : ∀ vs H Q E, sp_is_turn K vs H Q E → t_is_turn K E { nx := fun _ H' => Q .non H', rt := Q } (start N_is_turn vs) H := by
  intro vs H Q E h
  match vs, h with
  | [kv, tv], h =>
    obtain ⟨ks, t, ⟨kt, rfl, hkt⟩, ⟨ta, rfl, hta⟩, hlt, k⟩ := h
    refine ⟨_, rfl, _, _, rfl, .inr (SqT.of hta), rfl, _, rfl, ?_⟩
    have e1 : decide (V.int ((([V.int (t.1 : Int), V.str (wayS t.2)] : List V).length : Nat) : Int) = V.int 2) = true := decide_eq_true rfl
    rw [e1]
    refine ⟨_, rfl, ixT ⟨ta, rfl, hta⟩ (j := 0) rfl rfl ⟨_, _, rfl, rfl, _, rfl, ?_⟩⟩
    rw [decide_eq_true (show (0 : Int) ≤ (t.1 : Int) by omega)]
    refine ⟨_, rfl, _, _, rfl, .inr (SqT.of hkt), _, _, rfl, rfl, _, rfl, ?_⟩
    rw [List.length_map, decide_eq_true (show (t.1 : Int) < (ks.length : Int) by omega)]
    refine ⟨_, rfl, ixT ⟨ta, rfl, hta⟩ (j := 1) rfl rfl ⟨szle (by show 2 ≤ 100000; decide), fun p hp => ⟨p, _, rfl, .inr (SqT.of upd_same), rfl, rfl, ?_⟩⟩⟩
    have e : inV (.str (wayS t.2)) [.str "up", .str "down"] = true := by
      rw [in_two]
      cases t.2
      · rw [decide_eq_true (p := ("down" : Str) = wayS false) rfl, Bool.or_true]
      · rw [decide_eq_true (p := ("up" : Str) = wayS true) rfl]; rfl
    show Q (.bl (inV (.str (wayS t.2)) [.str "up", .str "down"])) _
    rw [e]
    exact k _ (Rs.Same.new hp)
abbrev N_need_order : List Str := ["kinds", "order", "good", "turn"]
abbrev P_need_order : List Str := ["kinds", "order"]
def sp_need_order (K : PySem.W.Frag) : Sp := fun vs H Q E => match vs with
  | [kv, ov] => ∃ ks o, KindsAt H kv ks ∧ LstV TurnAt H ov o ∧ GoodOrd ks o ∧ o.length ≤ 1000 ∧ ∀ H', Same H H' → Q .non H'
  | _ => False
def t_need_order (K : PySem.W.Frag) (E : XK) : TS := (tSeq (tAsg (tLc (iList K (tVar 1)) (gName 3) (tB (tCall (sp_is_turn K) [] E0 (tCons (tVar 0) (tCons (tVar 3) tNil)))) (tVar 3) [3]) (gName 2))
  (tIfS (tOr (tTest (tOpC rEq (tCB1 (xLen K) (tVar 2)) (.int 0))) (tOr (tTest (tOp rNe (tCB1 (xLen K) (tVar 2)) (tCB1 (xLen K) (tVar 1)))) (tTest (tOp rNe (tLenSetX K (tLc (iList K (tVar 2)) (gName 3) tYes (tOpC (rIxT K) (tVar 3) (.int 0)) [3])) (tCB1 (xLen K) (tVar 2)))))) tNever tNext))
theorem nodup_cast : ∀ {l : List Nat}, l.Nodup → (l.map fun (n : Nat) => (n : Int)).Nodup
  | [], _ => by simp
  | a :: l, h => by
    rw [List.map_cons, List.nodup_cons]
    obtain ⟨h1, h2⟩ := List.nodup_cons.mp h
    refine ⟨fun hm => ?_, nodup_cast h2⟩
    obtain ⟨b, hb, e⟩ := List.mem_map.mp hm
    exact h1 (by have : b = a := by omega
                 rw [← this]; exact hb)
theorem pure_need_order {K : PySem.W.Frag} : ∀ vs H Q E, sp_need_order K vs H Q E → t_need_order K E { nx := fun _ H' => Q .non H', rt := Q } (start N_need_order vs) H := by
  intro vs H Q E h
  match vs, h with
  | [kv, ov], h =>
    obtain ⟨ks, o, hk, ⟨lo, rfl, ov, hlo, hts⟩, go, hlen, k⟩ := h
    have hl := hts.length
    refine ⟨_, rfl, lo, rfl, ⟨_, SqL.of hlo⟩, fun D hD => ?_⟩
    refine lc_list (K := K) (a := lo) (xs := ov) (fun j H2 => H2 D = some (.lst (ov.take j)) ∧ Same H H2) ⟨upd_same, Rs.Same.new hD⟩ ?_ ?_ ?_
    · rintro j H2 _ ⟨_, s⟩
      exact SqL.of (s _ _ hlo)
    · rintro j v H2 hj ⟨hd, s⟩
      obtain ⟨t, ht, hta⟩ := P2.get hts hj
      have st := TupLe.same s
      refine ⟨rfl, _, rfl, _, rfl, ks, t, hk.mono st, hta.mono st, go.col t (List.mem_of_getElem? ht), fun H3 s3 => ⟨_, rfl, ?_⟩⟩
      refine ⟨_, rfl, _, s3 _ _ hd, szlt (by rw [List.length_take]; omega), ?_, Rs.Same.mut (s.trans s3) hD⟩
      rw [upd_same, List.take_succ, hj] <;> rfl
    · rintro H2 ⟨hd, s⟩
      rw [List.take_of_length_le (Nat.le_refl _)] at hd
      have hpos : 0 < ov.length := by
        rw [hl]
        cases o with
        | nil => exact absurd rfl go.ne
        | cons t o => simp
      refine ⟨_, rfl, _, _, rfl, .inl (SqL.of hd), rfl, _, rfl, ?_⟩
      have e0 : decide (V.int (ov.length : Int) = V.int 0) = false := decide_eq_false fun e => by injection e with e; omega
      rw [e0]
      refine ⟨_, rfl, _, _, rfl, .inl (SqL.of hd), _, rfl, _, _, rfl, .inl (SqL.of (s _ _ hlo)), rfl, _, rfl, ?_⟩
      have e1 : (!decide (V.int (ov.length : Int) = V.int (ov.length : Int))) = false := by simp
      rw [e1]
      refine ⟨_, rfl, D, rfl, ⟨_, SqL.of hd⟩, fun D2 hD2 => ?_⟩
      refine lc_list (K := K) (a := D) (xs := ov) (fun j H3 => H3 D2 = some (.lst (((o.map (·.1)).take j).map fun (n : Nat) => V.int (n : Int))) ∧ Same H2 H3) ⟨by rw [upd_same] <;> rfl, Rs.Same.new hD2⟩ ?_ ?_ ?_
      · rintro j H3 _ ⟨_, s3⟩
        exact SqL.of (s3 _ _ hd)
      · rintro j v H3 hj ⟨hd2, s3⟩
        obtain ⟨t, ht, hta⟩ := P2.get hts hj
        have st := TupLe.same (s.trans s3)
        refine ⟨rfl, lc_yes ⟨_, rfl, ixT (hta.mono st) (j := 0) rfl rfl ?_⟩⟩
        refine ⟨_, hd2, szlt (by rw [List.length_map, List.length_take, List.length_map]; omega), ?_, Rs.Same.mut s3 hD2⟩
        rw [upd_same, List.take_succ, List.getElem?_map, ht, List.map_append] <;> rfl
      · rintro H3 ⟨hd2, s3⟩
        rw [List.take_of_length_le (by rw [List.length_map]; omega)] at hd2
        have em : (o.map (·.1)).map (fun (n : Nat) => V.int (n : Int)) = ((o.map (·.1)).map fun (n : Nat) => (n : Int)).map V.int := by rw [List.map_map (f := fun (n : Nat) => (n : Int))] <;> rfl
        rw [em] at hd2
        refine ⟨D2, _, rfl, SqL.of hd2, by rw [List.length_map, List.length_map]; omega, _, rfl, _, _, rfl, .inl (SqL.of (s3 _ _ hd)), rfl, _, rfl, ?_⟩
        have e2 : (!decide (V.int ((dcount ((o.map (·.1)).map fun (n : Nat) => (n : Int)) : Nat) : Int) = V.int (ov.length : Int))) = false := by
          rw [dcount_nodup (nodup_cast go.nd), List.length_map, List.length_map, hl]
          simp
        rw [e2]
        exact k _ (s.trans s3)
abbrev N_is_value : List Str := ["kind", "value", "sign"]
abbrev P_is_value : List Str := ["kind", "value"]
def sp_is_value (K : PySem.W.Frag) : Sp := fun vs H Q E => match vs with
  | [kv, xv] => ∃ (kd : Str) (x : Key), kv = .str kd ∧ xv = kV x ∧ (∀ s, x = .inr s → s.length ≤ 1000) ∧ ∀ H', Same H H' → Q (.bl (isValue kd x)) H'
  | _ => False
def t_is_value (K : PySem.W.Frag) (E : XK) : TS := (tSeq (tIfS (tTest (tOpC rEq (tVar 0) (.str "word"))) 
    (tSeq (tIfS (tOr (tNot (tB (tIsi K "str" (tVar 1)))) (tTest (tOpC xGt (tCB1 xLenS (tVar 1)) (.int 6)))) (tRet (tC (.bl false))) tNext)
    (tRet (tOp (xEqE K) (tLc (iStr (tVar 1)) (gName 2) (tTest (tOpC rNotInS (tVar 2) (.str "abcdefghijklmnopqrstuvwxyz"))) (tVar 2) [2]) (tLst tNil)))) tNext)
  (tRet (tAndV (tIsi K "int" (tVar 1)) (tAndV (tNotV (tIsi K "bool" (tVar 1))) (tChain xLe xLe (tOpC xSub (tC (.int 0)) (.int 999)) (tVar 1) (tC (.int 999)))))))
theorem filter_nil_all {α : Type} (p : α → Bool) : ∀ l : List α, (l.filter fun x => !p x).isEmpty = l.all p
  | [] => rfl
  | a :: l => by
    rw [List.filter_cons, List.all_cons]
    cases p a
    · rfl
    · simpa using filter_nil_all p l
theorem pure_is_value {K : PySem.W.Frag} : ∀ vs H Q E, sp_is_value K vs H Q E → t_is_value K E { nx := fun _ H' => Q .non H', rt := Q } (start N_is_value vs) H := by
  intro vs H Q E h
  match vs, h with
  | [kv, xv], h =>
    obtain ⟨kd, x, rfl, rfl, hsz, k⟩ := h
    refine ⟨_, rfl, rfl, _, rfl, ?_⟩
    by_cases hw : V.str kd = V.str "word"
    · rw [decide_eq_true hw]
      have ekd : kd = "word" := by injection hw
      cases x with
      | inl i =>
        refine ⟨_, rfl, isi_go (t := "int") (b := false) (.base (.int i)) (by decide +kernel) ⟨_, rfl, ?_⟩⟩
        have e : isValue kd (.inl i) = false := by simp [isValue, ekd]
        rw [e] at k
        exact k _ (Same.refl H)
      | inr s =>
        refine ⟨_, rfl, isi_go (t := "str") (b := true) (.base (.str s)) (by decide +kernel) ⟨_, rfl, ?_⟩⟩
        refine ⟨_, rfl, s, rfl, szle (by have := hsz s rfl; omega), _, _, rfl, rfl, _, rfl, ?_⟩
        by_cases hl : (6 : Int) < (s.length : Int)
        · rw [decide_eq_true hl]
          have e : isValue kd (.inr s) = false := by simp [isValue]; intro _ h6; omega
          rw [e] at k
          exact k _ (Same.refl H)
        · rw [decide_eq_false hl]
          refine ⟨_, rfl, s, rfl, fun D hD => ?_⟩
          refine lc_it (walk_str (z := s)) (fun j H2 => H2 D = some (.lst (((s.cps.toList.take j).filter fun c => !decide (c ∈ letters)).map fun c => V.str ⟨#[c]⟩)) ∧ Same H H2) ⟨upd_same, Rs.Same.new hD⟩ (fun _ _ _ _ => trivial) ?_ ?_
          · rintro j x H1 H2 hj ⟨hd, s1⟩ ⟨rfl, c, hc, rfl⟩
            have hc' : s.cps.toList[j]? = some c := by simpa using hc
            have hlen : s.cps.size ≤ 6 := by have : s.length = s.cps.size := rfl; omega
            refine ⟨rfl, _, rfl, c, _, rfl, rfl, _, rfl, ?_⟩
            have el : ("abcdefghijklmnopqrstuvwxyz" : Str).cps.toList = letters := rfl
            rw [el]
            by_cases hm : c ∈ letters
            · rw [decide_eq_true hm]
              refine ⟨?_, s1⟩
              rw [hd, List.take_succ, hc', List.filter_append]
              simp [hm]
            · rw [decide_eq_false hm]
              refine ⟨_, rfl, _, hd, szlt (by rw [List.length_map]; have := List.length_filter_le (fun c => !decide (c ∈ letters)) (s.cps.toList.take j); rw [List.length_take] at this; omega), ?_, Rs.Same.mut s1 hD⟩
              rw [upd_same, List.take_succ, hc', List.filter_append]
              simp [hm]
          · rintro H2 ⟨hd, s1⟩
            rw [List.take_of_length_le (by simp)] at hd
            refine ⟨sz0, fun p hp => ?_⟩
            refine eqE hd hp (b := isValue kd (.inr s)) ?_ (k _ (s1.trans (Rs.Same.new hp)))
            have h6 : s.length ≤ 6 := by omega
            simp only [isValue, ekd, h6, decide_true, Bool.true_and]
            rw [List.isEmpty_map, filter_nil_all]
    · rw [decide_eq_false hw]
      have ekd : kd ≠ "word" := fun e => hw (by rw [e])
      cases x with
      | inl i =>
        refine ⟨_, rfl, isi_go (t := "int") (b := true) (.base (.int i)) (by decide +kernel) ⟨_, rfl, ?_⟩⟩
        refine ⟨_, rfl, isi_go (t := "int") (b := false) (.base (.int i)) (by decide +kernel) ⟨_, rfl, _, rfl, ?_⟩⟩
        refine ⟨_, _, rfl, rfl, _, rfl, _, _, rfl, rfl, _, rfl, ?_⟩
        have hk : isValue kd (.inl i) = (decide ((0 : Int) - 999 ≤ i) && decide (i ≤ 999)) := by
          simp only [isValue, ne_eq, ekd, not_false_eq_true, decide_true, Bool.true_and]
          rfl
        rw [hk] at k
        by_cases h1 : (0 : Int) - 999 ≤ i
        · rw [decide_eq_true h1] at k ⊢
          refine ⟨_, _, rfl, rfl, k _ (Same.refl H)⟩
        · rw [decide_eq_false h1] at k ⊢
          exact k _ (Same.refl H)
      | inr s =>
        refine ⟨_, rfl, isi_go (t := "str") (b := false) (.base (.str s)) (by decide +kernel) ⟨_, rfl, ?_⟩⟩
        have e : isValue kd (.inr s) = false := by simp [isValue, ekd]
        rw [e] at k
        exact k _ (Same.refl H)
abbrev N_is_row : List Str := ["kinds", "row", "k"]
abbrev P_is_row : List Str := ["kinds", "row"]
/-- texts that aren't too long to be told -/
def RowSz (r : Row) : Prop := r.length ≤ 1000 ∧ ∀ s, Sum.inr s ∈ r → s.length ≤ 1000
theorem RowSz.of {ks : List Str} {r : Row} (h : isRow ks r = true) (hk : ks.length ≤ 4) : RowSz r := by
  refine ⟨by rw [isRow_len h]; omega, fun s hs => ?_⟩
  obtain ⟨i, hi, e⟩ := List.mem_iff_getElem.mp hs
  have v := isRow_val h (i := i) (by rw [← isRow_len h]; exact hi)
  have ek : kcol r i = .inr s := by
    unfold kcol
    rw [List.getD_eq_getElem?_getD, List.getElem?_eq_getElem hi, e]
    rfl
  rw [ek] at v
  simp only [isValue, Bool.and_eq_true, decide_eq_true_eq] at v
  omega
def sp_is_row (K : PySem.W.Frag) : Sp := fun vs H Q E => match vs with
  | [kv, rv] => ∃ (ks : List Str) (r : Row), KindsAt H kv ks ∧ RowAt H rv r ∧ RowSz r ∧ ks.length ≤ 1000 ∧ ∀ H', Same H H' → Q (.bl (isRow ks r)) H'
  | _ => False
def t_is_row (K : PySem.W.Frag) (E : XK) : TS := (tSeq (tIfS (tTest (tOp rNe (tCB1 (xLen K) (tVar 1)) (tCB1 (xLen K) (tVar 0)))) (tRet (tC (.bl false))) tNext)
  (tRet (tOp (xEqE K) (tLc (iRng1 (tCons (tCB1 (xLen K) (tVar 0)) tNil)) (gName 2) (tNot (tB (tCall (sp_is_value K) [] E0 (tCons (tOp (rIxT K) (tVar 0) (tVar 2)) (tCons (tOp (rIxT K) (tVar 1) (tVar 2)) tNil))))) (tVar 2) [2]) (tLst tNil))))
theorem pure_is_row {K : PySem.W.Frag} : ∀ vs H Q E, sp_is_row K vs H Q E → t_is_row K E { nx := fun _ H' => Q .non H', rt := Q } (start N_is_row vs) H := by
  intro vs H Q E h
  match vs, h with
  | [kv, rv], h =>
    obtain ⟨ks, r, ⟨kt, rfl, hkt⟩, ⟨rt, rfl, hrt⟩, hsz, hkl, k⟩ := h
    refine ⟨_, rfl, _, _, rfl, .inr (SqT.of hrt), _, rfl, _, _, rfl, .inr (SqT.of hkt), rfl, _, rfl, ?_⟩
    by_cases hl : r.length = ks.length
    · have e1 : (!decide (V.int (((r.map kV).length : Nat) : Int) = V.int (((ks.map V.str).length : Nat) : Int))) = false := by
        rw [List.length_map, List.length_map, hl]; simp
      rw [e1]
      refine ⟨_, rfl, _, _, rfl, .inr (SqT.of hkt), _, rfl, by omega, by rw [List.length_map]; omega, fun D hD => ?_⟩
      refine lc_range (lo := 0) (n := (((ks.map V.str).length : Nat) : Int).toNat) (fun j H2 => H2 D = some (.lst (((List.range j).filter fun i => !isValue (ks.getD i "") (kcol r i)).map fun (i : Nat) => V.int (i : Int))) ∧ Same H H2) ⟨upd_same, Rs.Same.new hD⟩ ?_ ?_
      · rintro j H2 hj ⟨hd, s⟩
        rw [List.length_map] at hj
        have hjk : j < ks.length := by omega
        have z : (0 + (j : Int)) = (j : Int) := by omega
        refine ⟨rfl, _, rfl, _, rfl, _, _, _, _, rfl, rfl, SqT.of (s _ _ hkt), at_of (j := j) z (by rw [List.getElem?_map, List.getElem?_eq_getElem hjk]; rfl), _, rfl, _, rfl, _, _, _, _, rfl, rfl, SqT.of (s _ _ hrt), at_of (j := j) z (by rw [List.getElem?_map, kcol_get (by omega)]; rfl), _, _, rfl, rfl, fun st hst => ?_, fun H3 s3 => ⟨_, rfl, ?_⟩⟩
        · refine hsz.2 st ?_
          rw [← hst]
          exact List.mem_of_getElem? (kcol_get (by omega))
        have eg : ks[j] = ks.getD j "" := by rw [List.getD_eq_getElem?_getD, List.getElem?_eq_getElem hjk]; rfl
        rw [eg]
        have hd3 := s3 _ _ hd
        have lf : ((List.range j).filter fun i => !isValue (ks.getD i "") (kcol r i)).length ≤ j := by
          have := List.length_filter_le (fun i => !isValue (ks.getD i "") (kcol r i)) (List.range j)
          rw [List.length_range] at this
          exact this
        cases hv : isValue (ks.getD j "") (kcol r j) with
        | true =>
          refine ⟨?_, s.trans s3⟩
          have ef : ([j].filter fun i => !isValue (ks.getD i "") (kcol r i)) = [] := by rw [List.filter_cons, hv] <;> rfl
          rw [hd3, List.range_succ, List.filter_append, ef, List.append_nil]
        | false =>
          refine ⟨_, rfl, _, hd3, szlt (by rw [List.length_map]; omega), ?_, Rs.Same.mut (s.trans s3) hD⟩
          have ef : ([j].filter fun i => !isValue (ks.getD i "") (kcol r i)) = [j] := by rw [List.filter_cons, hv] <;> rfl
          rw [upd_same, List.range_succ, List.filter_append, z, ef, List.map_append] <;> rfl
      · rintro H2 ⟨hd, s⟩
        have en : (((ks.map V.str).length : Nat) : Int).toNat = ks.length := by rw [List.length_map]; omega
        rw [en] at hd
        refine ⟨sz0, fun p hp => eqE hd hp (b := isRow ks r) ?_ (k _ (s.trans (Rs.Same.new hp)))⟩
        rw [List.isEmpty_map, filter_nil_all]
        unfold isRow
        rw [decide_eq_true hl, Bool.true_and]
    · have e1 : (!decide (V.int (((r.map kV).length : Nat) : Int) = V.int (((ks.map V.str).length : Nat) : Int))) = true := by
        rw [List.length_map, List.length_map]
        rw [decide_eq_false fun e => hl (by injection e with e; omega)]
        rfl
      rw [e1]
      have e : isRow ks r = false := by unfold isRow; rw [decide_eq_false hl]; rfl
      rw [e] at k
      exact k _ (Same.refl H)
abbrev N_numbered : List Str := ["rows", "number", "row"]
abbrev P_numbered : List Str := ["rows"]
def sp_numbered (K : PySem.W.Frag) : Sp := sp_law_pairs K
def t_numbered (K : PySem.W.Frag) (E : XK) : TS := (tRet (tLc (iEnum K (tCons (tVar 0) tNil)) (gTup K 2 (gCons (gName 1) (gCons (gName 2) gNil))) tYes (tTup (tCons (tVar 1) (tCons (tVar 2) tNil))) [1, 2]))
theorem pure_numbered {K : PySem.W.Frag} : ∀ vs H Q E, sp_numbered K vs H Q E → t_numbered K E { nx := fun _ H' => Q .non H', rt := Q } (start N_numbered vs) H := by
  intro vs H Q E h
  unfold sp_numbered at h
  match vs, h with
  | [v], h =>
    obtain ⟨rows, ⟨lr, rfl, rv, hr, hrows⟩, hlen, k⟩ := h
    have hl := hrows.length
    refine ⟨_, rfl, _, _, rfl, SqL.of hr, fun D hD => ?_⟩
    refine lc_it (walk_enum (K := K) (a := lr) (xs := rv)) (fun i H' => ∃ vs, H' D = some (.lst vs) ∧ Paired (PairAt H') vs ((List.range i).map fun (i : Nat) => ((i : Int), rows.getD i [])) ∧ Same H H') ⟨[], upd_same, .nil, Rs.Same.new hD⟩ ?_ ?_ ?_
    · rintro i H' _ ⟨_, _, _, s⟩
      exact SqL.of (s _ _ hr)
    · rintro i x H' H2 hi ⟨vs, hd, hp, s⟩ ⟨T, x1, w, rfl, hT, rfl, hx1, hw⟩
      cases hx1
      have hi' : i < rows.length := by omega
      obtain ⟨r, hr', hra⟩ := P2.get hrows hw
      have hdT := un (u := .tup [.int (i : Nat), w]) hd hT
      refine ⟨T, _, rfl, SqT.of upd_same, rfl, _, _, rfl, _, _, rfl, rfl, rfl, lc_yes ⟨_, rfl, _, rfl, szle (by show 2 ≤ 100000; decide), fun t ht => ?_⟩⟩
      have hdt := un (u := .tup [.int (i : Nat), w]) hdT ht
      refine ⟨_, hdt, szlt (by have := hp.length; simp at this; omega), vs ++ [.ref t], upd_same, ?_, Rs.Same.mut ((s.trans (Rs.Same.new hT)).trans (Rs.Same.new ht)) hD⟩
      have tt : TupLe H' (upd (upd (upd H' T (.tup [.int (i : Nat), w])) t (.tup [.int (i : Nat), w])) D (.lst (vs ++ [.ref t]))) := ((TupLe.new hT).trans (TupLe.new ht)).list hdt
      have th : TupLe H (upd (upd (upd H' T (.tup [.int (i : Nat), w])) t (.tup [.int (i : Nat), w])) D (.lst (vs ++ [.ref t]))) := (TupLe.same s).trans tt
      rw [prs_take hr']
      refine P2.app (Paired.tl PairAt.st tt hp) (P2.one ⟨w, ⟨t, rfl, ?_⟩, RowAt.st _ _ _ _ th hra⟩)
      rw [upd_ne (ne_of_none hdT ht).symm, upd_same]
    · rintro H' ⟨vs, hd, hp, s⟩
      refine k D H' hD ⟨vs, hd, ?_⟩ s
      rw [hl] at hp
      exact hp
abbrev N_need_rows : List Str := ["kinds", "rows", "most", "place", "row"]
abbrev P_need_rows : List Str := ["kinds", "rows", "most"]
def sp_need_rows (K : PySem.W.Frag) : Sp := fun vs H Q E => match vs with
  | [kv, rv, m] => ∃ (ks : List Str) (rows : List Row) (most : Int), KindsAt H kv ks ∧ LstV RowAt H rv rows ∧ m = .int most ∧ ks.length ≤ 4 ∧ (∀ r ∈ rows, isRow ks r = true) ∧ (rows.length : Int) ≤ most ∧ ∀ H', Same H H' → Q .non H'
  | _ => False
def t_need_rows (K : PySem.W.Frag) (E : XK) : TS := (tFor (iEnum K (tCons (tVar 1) tNil)) (gTup K 2 (gCons (gName 3) (gCons (gName 4) gNil))) 
    (tIfS (tOr (tTest (tOp xGe (tVar 3) (tVar 2))) (tNot (tB (tCall (sp_is_row K) [] E (tCons (tVar 0) (tCons (tVar 4) tNil)))))) tNever tNext))
theorem pure_need_rows {K : PySem.W.Frag} : ∀ vs H Q E, sp_need_rows K vs H Q E → t_need_rows K E { nx := fun _ H' => Q .non H', rt := Q } (start N_need_rows vs) H := by
  intro vs H Q E h
  match vs, h with
  | [kv, rv, m], h =>
    obtain ⟨ks, rows, most, hk, ⟨lr, rfl, rv, hr, hrows⟩, rfl, hk4, hall, hm, k⟩ := h
    have hl := hrows.length
    refine ⟨_, rfl, _, _, rfl, SqL.of hr, ?_⟩
    refine for_it (walk_enum (K := K) (a := lr) (xs := rv)) (fun i σ H' => ∃ x3 x4, σ = [some kv, some (.ref lr), some (.int most), x3, x4] ∧ Same H H') ⟨none, none, rfl, Same.refl H⟩ ?_ ?_ ?_
    · rintro i σ H' _ ⟨_, _, _, s⟩
      exact SqL.of (s _ _ hr)
    · rintro i x σ H' H2 hi ⟨x3, x4, rfl, s⟩ ⟨T, x1, w, rfl, hT, rfl, hx1, hw⟩
      cases hx1
      obtain ⟨r, hr', hra⟩ := P2.get hrows hw
      have s2 := s.trans (Rs.Same.new (o := .tup [.int (i : Nat), w]) hT)
      refine ⟨T, _, rfl, SqT.of upd_same, rfl, _, _, rfl, _, _, rfl, rfl, ?_⟩
      refine ⟨_, rfl, _, rfl, _, _, rfl, rfl, _, rfl, ?_⟩
      rw [decide_eq_false (show ¬ most ≤ ((i : Nat) : Int) by omega)]
      have st := TupLe.same s2
      have gr := hall r (List.mem_of_getElem? hr')
      refine ⟨_, rfl, _, rfl, ks, r, hk.mono st, RowAt.st _ _ _ _ st hra, RowSz.of gr hk4, by omega, fun H3 s3 => ⟨_, rfl, ?_⟩⟩
      rw [gr]
      exact ⟨_, _, rfl, s2.trans s3⟩
    · rintro σ H' ⟨x3, x4, rfl, s⟩
      exact k _ s
abbrev N_joined : List Str := ["order", "one", "other", "found", "here", "pair"]
abbrev P_joined : List Str := ["order", "one", "other"]
/-- two lists in order, as one -/
def mrg (o : Ord) : List Pr → List Pr → List Pr
  | xs, [] => xs
  | xs, y :: ys => (xs.takeWhile fun x => before o x y) ++ y :: mrg o (xs.dropWhile fun x => before o x y) ys
def sp_joined (K : PySem.W.Frag) : Sp := fun vs H Q E => match vs with
  | [ov, a, b] => ∃ o xs ys, LstV TurnAt H ov o ∧ LstV PairAt H a xs ∧ LstV PairAt H b ys ∧ (∀ x ∈ xs, ∀ y ∈ ys, Cmp o x.2 y.2) ∧ xs.length + ys.length ≤ 1000 ∧
    ∀ f H', H f = none → Lst PairAt H' f (mrg o xs ys) → Same H H' → Q (.ref f) H'
  | _ => False
def t_joined (K : PySem.W.Frag) (E : XK) : TS := (tSeq (tAsg (tLst tNil) (gName 3))
  (tSeq (tAsg (tC (.int 0)) (gName 4))
   (tSeq (tFor (iList K (tVar 2)) (gName 5) 
      (tSeq (tWhile (tAnd (tTest (tOp xLt (tVar 4) (tCB1 (xLen K) (tVar 1)))) (tB (tCall (sp_is_before K) [] E (tCons (tVar 0) (tCons (tOp (rIxL K) (tVar 1) (tVar 4)) (tCons (tVar 5) tNil)))))) 
        (tSeq (tDrop (tBM K "list" rAppend (tVar 3) (tCons (tOp (rIxL K) (tVar 1) (tVar 4)) tNil)))
        (tAsg (tOpC xAdd (tVar 4) (.int 1)) (gName 4))))
      (tDrop (tBM K "list" rAppend (tVar 3) (tCons (tVar 5) tNil)))))
    (tRet (tOp rCat (tVar 3) (tSl (rSlL K) (tVar 1) (tPart (tVar 4)) tNoPart))))))
theorem drop_dw {α : Type} (p : α → Bool) : ∀ (xs : List α), xs.dropWhile p = xs.drop (xs.takeWhile p).length
  | [] => rfl
  | x :: xs => by
    rw [List.dropWhile_cons, List.takeWhile_cons]
    cases p x
    · rfl
    · simpa using drop_dw p xs
theorem len_tw {α : Type} (p : α → Bool) : ∀ (xs : List α), (xs.takeWhile p).length ≤ xs.length
  | [] => Nat.le_refl _
  | x :: xs => by
    rw [List.takeWhile_cons]
    cases p x
    · simp
    · simpa using len_tw p xs
theorem cut_from {xs : List V} {n : Nat} (h : n ≤ xs.length) : cutV xs (some (n : Int)) none = xs.drop n := by
  unfold cutV
  rw [HT.sIx_nat, HT.sIx_none, Nat.min_eq_left h]
  exact List.take_of_length_le (by rw [List.length_drop]; exact Nat.le_refl _)
theorem cut_to {xs : List V} {n : Nat} (h : n ≤ xs.length) : cutV xs none (some (n : Int)) = xs.take n := by
  unfold cutV
  rw [HT.sIx_nat, HT.sIx_none, Nat.min_eq_left h, List.drop_zero]
  rfl
theorem cut_mid {xs : List V} {i j : Nat} : cutV xs (some (i : Int)) (some (j : Int)) = (xs.drop i).take (j - i) := by
  unfold cutV
  rw [HT.sIx_nat, HT.sIx_nat]
  by_cases hi : i ≤ xs.length
  · rw [Nat.min_eq_left hi]
    by_cases hj : j ≤ xs.length
    · rw [Nat.min_eq_left hj]
    · rw [Nat.min_eq_right (by omega), List.take_of_length_le (by rw [List.length_drop]; exact Nat.le_refl _), List.take_of_length_le (by rw [List.length_drop]; omega)]
  · rw [Nat.min_eq_right (by omega : xs.length ≤ i), List.drop_of_length_le (Nat.le_refl _), List.drop_of_length_le (by omega : xs.length ≤ i)]
    simp
theorem pure_joined {K : PySem.W.Frag} : ∀ vs H Q E, sp_joined K vs H Q E → t_joined K E { nx := fun _ H' => Q .non H', rt := Q } (start N_joined vs) H := by
  intro vs H Q E h
  match vs, h with
  | [ov, a, b], h =>
    obtain ⟨o, xs, ys, ho, ⟨lx, rfl, xv, hx, hxs⟩, ⟨ly, rfl, yv, hy, hys⟩, hc, hlen, k⟩ := h
    have hlx := hxs.length
    have hly := hys.length
    refine ⟨sz0, fun f hf => ?_⟩
    -- W: done so far, here, still to come
    refine ⟨_, rfl, ly, rfl, ⟨_, SqL.of (un hy hf)⟩, ?_⟩
    refine for_list (K := K) (a := ly) (xs := yv) (fun i σ H' => ∃ (here : Nat) (ds : List Pr) (x5 : Option V), σ = [some ov, some (.ref lx), some (.ref ly), some (.ref f), some (.int (here : Int)), x5] ∧ Same H H' ∧ Lst PairAt H' f ds ∧ here ≤ xs.length ∧ ds.length = here + i ∧ ds ++ mrg o (xs.drop here) (ys.drop i) = mrg o xs ys)
      ⟨0, [], none, rfl, Rs.Same.new hf, ⟨[], upd_same, .nil⟩, Nat.zero_le _, rfl, rfl⟩ ?_ ?_ ?_
    · rintro i σ H' _ ⟨_, _, _, _, s, _⟩
      exact SqL.of (s _ _ hy)
    · rintro i v σ H' hi ⟨here, ds, x5, rfl, s, hd, hh, hdl, he⟩
      obtain ⟨y, hy', hya⟩ := P2.get hys hi
      have hil := (List.getElem?_eq_some_iff.mp hi).1
      have hdrop : ys.drop i = y :: ys.drop (i + 1) := drop_cons hy'
      rw [hdrop] at he
      -- the while: up to the first of xs that isn't ahead of y
      refine ⟨fun m σ H' => ∃ (here : Nat) (ds : List Pr), m = xs.length - here ∧ σ = [some ov, some (.ref lx), some (.ref ly), some (.ref f), some (.int (here : Int)), some v] ∧ Same H H' ∧ Lst PairAt H' f ds ∧ here ≤ xs.length ∧ ds.length = here + i ∧ ds ++ mrg o (xs.drop here) (y :: ys.drop (i + 1)) = mrg o xs ys, ⟨_, here, ds, rfl, rfl, s, hd, hh, hdl, he⟩, ?_⟩
      rintro m σ' H1 ⟨here, ds, rfl, rfl, s, ⟨dv, hf1, hds⟩, hh, hdl, he⟩
      have hdv := hds.length
      refine ⟨_, rfl, _, rfl, _, _, rfl, .inl (SqL.of (s _ _ hx)), _, _, rfl, rfl, _, rfl, ?_⟩
      -- where it ends
      have stop : ∀ (D : Ends) (H2 : Hp), (∀ σ H', (∃ (here : Nat) (ds : List Pr) (x5 : Option V), σ = [some ov, some (.ref lx), some (.ref ly), some (.ref f), some (.int (here : Int)), x5] ∧ Same H H' ∧ Lst PairAt H' f ds ∧ here ≤ xs.length ∧ ds.length = here + (i + 1) ∧ ds ++ mrg o (xs.drop here) (ys.drop (i + 1)) = mrg o xs ys) → D.nx σ H') →
          Same H H2 → H2 f = some (.lst dv) → Paired (PairAt H2) dv ds → (∀ x r, xs.drop here = x :: r → before o x y = false) → (tDrop (tBM K "list" rAppend (tVar 3) (tCons (tVar 5) tNil))) D
            [some ov, some (.ref lx), some (.ref ly), some (.ref f), some (.int (here : Int)), some v] H2 := fun D H2 hD s2 hf2 hds2 hst => by
        refine ⟨_, rfl, .inl ⟨rfl, _, SqL.of hf2⟩, _, rfl, _, _, _, rfl, rfl, hf2, szlt (by omega), ?_⟩
        have t2 : TupLe H2 (upd H2 f (.lst (dv ++ [v]))) := (TupLe.refl H2).list hf2
        refine hD _ _ ⟨here, ds ++ [y], _, rfl, Rs.Same.mut s2 hf, ⟨_, upd_same, P2.app (Paired.tl PairAt.st t2 hds2) (P2.one (PairAt.st _ _ _ _ ((TupLe.same s2).trans t2) hya))⟩, hh, by simp; omega, ?_⟩
        rw [← he]
        have e1 : ((xs.drop here).takeWhile fun x => before o x y) = [] := by
          cases hq : xs.drop here with
          | nil => rfl
          | cons x r => rw [List.takeWhile_cons, hst x r hq] <;> rfl
        have e2 : ((xs.drop here).dropWhile fun x => before o x y) = xs.drop here := by
          cases hq : xs.drop here with
          | nil => rfl
          | cons x r => rw [List.dropWhile_cons, hst x r hq] <;> rfl
        show (ds ++ [y]) ++ mrg o (xs.drop here) (ys.drop (i + 1)) = ds ++ (((xs.drop here).takeWhile fun x => before o x y) ++ y :: mrg o ((xs.drop here).dropWhile fun x => before o x y) (ys.drop (i + 1)))
        rw [e1, e2]
        simp
      by_cases hlt : (here : Int) < (xv.length : Int)
      · rw [decide_eq_true hlt]
        have hlt' : here < xs.length := by omega
        obtain ⟨w, hw, hwa⟩ := P2.get' hxs (List.getElem?_eq_getElem hlt')
        have tH := TupLe.same s
        refine ⟨_, rfl, _, rfl, _, rfl, _, _, _, _, rfl, rfl, SqL.of (s _ _ hx), at_of rfl hw, _, rfl, o, xs[here], y, LstV.same TurnAt.st s ho, PairAt.st _ _ _ _ tH hwa, PairAt.st _ _ _ _ tH hya, hc _ (List.getElem_mem hlt') _ (List.mem_of_getElem? hy'), _, rfl, ?_⟩
        cases hb : before o xs[here] y with
        | true =>
          refine ⟨fun σ2 H2 => ∃ (h2 : Nat) (ds2 : List Pr), h2 = here + 1 ∧ σ2 = [some ov, some (.ref lx), some (.ref ly), some (.ref f), some (.int (h2 : Int)), some v] ∧ Same H H2 ∧ Lst PairAt H2 f ds2 ∧ h2 ≤ xs.length ∧ ds2.length = h2 + i ∧ ds2 ++ mrg o (xs.drop h2) (y :: ys.drop (i + 1)) = mrg o xs ys, ?_, ?_⟩
          · rintro σ2 H2 ⟨h2, ds2, rfl, e1, e2, e3, e4, e5, e6⟩
            exact ⟨xs.length - (here + 1), by omega, here + 1, ds2, rfl, e1, e2, e3, e4, e5, e6⟩
          · refine ⟨_, rfl, .inl ⟨rfl, _, SqL.of hf1⟩, _, rfl, _, rfl, _, _, _, _, rfl, rfl, SqL.of (s _ _ hx), at_of rfl hw, _, _, _, rfl, rfl, hf1, szlt (by omega), _, rfl, _, _, rfl, rfl, ?_⟩
            have t2 : TupLe H1 (upd H1 f (.lst (dv ++ [w]))) := (TupLe.refl H1).list hf1
            refine ⟨here + 1, ds ++ [xs[here]], rfl, rfl, Rs.Same.mut s hf, ⟨_, upd_same, P2.app (Paired.tl PairAt.st t2 hds) (P2.one (PairAt.st _ _ _ _ (tH.trans t2) hwa))⟩, hlt', by simp; omega, ?_⟩
            rw [← he, drop_cons (List.getElem?_eq_getElem hlt')]
            show (ds ++ [xs[here]]) ++ (((xs.drop (here + 1)).takeWhile fun x => before o x y) ++ y :: mrg o ((xs.drop (here + 1)).dropWhile fun x => before o x y) (ys.drop (i + 1))) =
              ds ++ (((xs[here] :: xs.drop (here + 1)).takeWhile fun x => before o x y) ++ y :: mrg o ((xs[here] :: xs.drop (here + 1)).dropWhile fun x => before o x y) (ys.drop (i + 1)))
            rw [List.takeWhile_cons, List.dropWhile_cons, hb]
            simp
        | false =>
          refine stop _ H1 (fun σ H' h => h) s hf1 hds fun x r e => ?_
          rw [drop_cons (List.getElem?_eq_getElem hlt')] at e
          cases e
          exact hb
      · rw [decide_eq_false hlt]
        refine stop _ H1 (fun σ H' h => h) s hf1 hds fun x r e => ?_
        rw [List.drop_of_length_le (by omega)] at e
        cases e
    · rintro σ H' ⟨here, ds, x5, rfl, s, ⟨dv, hf1, hds⟩, hh, hdl, he⟩
      have hdv := hds.length
      refine ⟨_, rfl, _, rfl, _, rfl, _, rfl, _, _, rfl, SqL.of (s _ _ hx), fun p hp => ?_⟩
      have ecut : cutV xv (some (here : Int)) none = xv.drop here := cut_from (by omega)
      rw [ecut]
      have hf2 : upd H' p (.lst (xv.drop here)) f = _ := un hf1 hp
      refine ⟨_, _, _, _, rfl, rfl, hf2, upd_same, szle (by rw [List.length_drop]; omega), fun q hq => ?_⟩
      have s3 : Same H (upd H' p (.lst (xv.drop here))) := s.trans (Rs.Same.new hp)
      have hq0 : H q = none := s3.free hq
      have tt : TupLe H' (upd (upd H' p (.lst (xv.drop here))) q (.lst (dv ++ xv.drop here))) := (TupLe.new hp).trans (TupLe.new hq)
      refine k q _ hq0 ⟨_, upd_same, ?_⟩ (s3.trans (Rs.Same.new hq))
      have ey : ys.drop yv.length = [] := List.drop_of_length_le (by omega)
      rw [ey] at he
      rw [← he]
      exact P2.app (Paired.tl PairAt.st tt hds) (Paired.tl PairAt.st ((TupLe.same s).trans tt) (P2.drop here hxs))
end Rs

namespace Rs
open PySem PySem.Spec PyProof.Rows L2
/-! ### merging, putting in: what is in order stays so -/
theorem mrg_nil (o : Ord) (xs : List Pr) : mrg o xs [] = xs := by unfold mrg; rfl
theorem mrg_cons (o : Ord) (xs : List Pr) (y : Pr) (ys : List Pr) : mrg o xs (y :: ys) = (xs.takeWhile fun x => before o x y) ++ y :: mrg o (xs.dropWhile fun x => before o x y) ys := rfl
theorem mrg_perm (o : Ord) : ∀ (ys xs : List Pr), (mrg o xs ys).Perm (xs ++ ys)
  | [], xs => by rw [mrg_nil, List.append_nil]
  | y :: ys, xs => by
    rw [mrg_cons]
    have ih := mrg_perm o ys (xs.dropWhile fun x => before o x y)
    have e : xs ++ y :: ys = (xs.takeWhile fun x => before o x y) ++ ((xs.dropWhile fun x => before o x y) ++ y :: ys) := by
      rw [← List.append_assoc, List.takeWhile_append_dropWhile]
    rw [e]
    refine List.Perm.append_left _ ?_
    exact (ih.cons y).trans List.perm_middle.symm
theorem Fine.left {ks : List Str} {xs ys : List Pr} (h : Fine ks (xs ++ ys)) : Fine ks xs := h.sub (List.sublist_append_left _ _)
theorem Fine.right {ks : List Str} {xs ys : List Pr} (h : Fine ks (xs ++ ys)) : Fine ks ys := h.sub (List.sublist_append_right _ _)
theorem nodup_ne {xs ys : List Pr} (h : ((xs ++ ys).map (·.1)).Nodup) {x y : Pr} (hx : x ∈ xs) (hy : y ∈ ys) : x.1 ≠ y.1 := by
  rw [List.map_append] at h
  intro e
  exact (List.nodup_append.mp h).2.2 _ (List.mem_map_of_mem hx) _ (List.mem_map_of_mem hy) e
/-- what isn't ahead is behind -/
theorem after_of {ks : List Str} {o : Ord} (ho : ∀ t ∈ o, t.1 < ks.length) {x y : Pr} (hx : isRow ks x.2 = true) (hy : isRow ks y.2 = true) (n : x.1 ≠ y.1) (h : before o x y = false) : before o y x = true := by
  rw [before_tot o (cmp_of ho hx hy) n, h]
  rfl
theorem mem_tw {p : Pr → Bool} : ∀ {xs : List Pr} {x : Pr}, x ∈ xs.takeWhile p → p x = true
  | [], _, h => by simp at h
  | a :: xs, x, h => by
    rw [List.takeWhile_cons] at h
    cases ha : p a with
    | true =>
      rw [ha] at h
      rcases List.mem_cons.mp h with e | e
      · rw [e]; exact ha
      · exact mem_tw e
    | false =>
      rw [ha] at h
      simp at h
theorem mrg_up {ks : List Str} {o : Ord} (ho : ∀ t ∈ o, t.1 < ks.length) : ∀ (ys xs : List Pr), Fine ks (xs ++ ys) → Up o xs → Up o ys → Up o (mrg o xs ys)
  | [], xs, _, a, _ => by rw [mrg_nil]; exact a
  | y :: ys, xs, f, a, b => by
    rw [mrg_cons]
    have hsplit : (xs.takeWhile fun x => before o x y) ++ (xs.dropWhile fun x => before o x y) = xs := List.takeWhile_append_dropWhile
    have rx : ∀ x ∈ xs, isRow ks x.2 = true := fun x hx => f.row x (List.mem_append_left _ hx)
    have ry : ∀ z ∈ y :: ys, isRow ks z.2 = true := fun z hz => f.row z (List.mem_append_right _ hz)
    have cm : ∀ p q : Pr, isRow ks p.2 = true → isRow ks q.2 = true → Cmp o p.2 q.2 := fun p q hp hq => cmp_of ho hp hq
    have fd : Fine ks ((xs.dropWhile fun x => before o x y) ++ ys) := f.sub (List.Sublist.append (List.dropWhile_sublist _) (List.sublist_cons_self _ _))
    have ad : Up o (xs.dropWhile fun x => before o x y) := List.Pairwise.sublist (List.dropWhile_sublist _) a
    have at_ : Up o (xs.takeWhile fun x => before o x y) := List.Pairwise.sublist (List.takeWhile_sublist _) a
    have ih := mrg_up ho ys (xs.dropWhile fun x => before o x y) fd ad (List.Pairwise.of_cons b)
    have pm := mrg_perm o ys (xs.dropWhile fun x => before o x y)
    -- y is ahead of what is left of xs
    have yd : ∀ z ∈ xs.dropWhile fun x => before o x y, before o y z = true := by
      intro z hz
      cases hd : xs.dropWhile fun x => before o x y with
      | nil => rw [hd] at hz; simp at hz
      | cons x0 r =>
        have h0 : before o x0 y = false := by
          have := List.head_dropWhile_not (fun x => before o x y) (l := xs) (by rw [hd]; simp)
          simpa [hd] using this
        have x0x : x0 ∈ xs := (List.dropWhile_sublist _).subset (by rw [hd]; exact List.mem_cons_self ..)
        have n0 : x0.1 ≠ y.1 := nodup_ne f.nd x0x (List.mem_cons_self ..)
        have b0 := after_of ho (rx x0 x0x) (ry y (List.mem_cons_self ..)) n0 h0
        rw [hd] at hz ad
        rcases List.mem_cons.mp hz with e | e
        · rw [e]; exact b0
        · have zx : z ∈ xs := (List.dropWhile_sublist _).subset (by rw [hd]; exact List.mem_cons_of_mem _ e)
          exact before_trans o (cm y x0 (ry y (List.mem_cons_self ..)) (rx x0 x0x)) (cm x0 z (rx x0 x0x) (rx z zx)) b0 (List.rel_of_pairwise_cons ad e)
    have yall : ∀ z ∈ mrg o (xs.dropWhile fun x => before o x y) ys, before o y z = true := fun z hz => by
      rcases List.mem_append.mp (pm.mem_iff.mp hz) with h | h
      · exact yd z h
      · exact List.rel_of_pairwise_cons b h
    refine List.pairwise_append.mpr ⟨at_, List.pairwise_cons.mpr ⟨yall, ih⟩, fun x hx z hz => ?_⟩
    have hxy : before o x y = true := mem_tw (p := fun x => before o x y) hx
    have xx : x ∈ xs := (List.takeWhile_sublist _).subset hx
    rcases List.mem_cons.mp hz with e | e
    · rw [e]; exact hxy
    · have hzr : isRow ks z.2 = true := by
        rcases List.mem_append.mp (pm.mem_iff.mp e) with h | h
        · exact rx z ((List.dropWhile_sublist _).subset h)
        · exact ry z (List.mem_cons_of_mem _ h)
      exact before_trans o (cm x y (rx x xx) (ry y (List.mem_cons_self ..))) (cm y z (ry y (List.mem_cons_self ..)) hzr) hxy (yall z e)
/-- one put in at its place -/
theorem put_up {ks : List Str} {o : Ord} (ho : ∀ t ∈ o, t.1 < ks.length) {ys : List Pr} {p : Pr} {n : Nat} (f : Fine ks (p :: ys)) (a : Up o ys) (h1 : ∀ i y, i < n → ys[i]? = some y → before o p y = false) (h2 : ∀ i y, n ≤ i → ys[i]? = some y → before o p y = true) :
    Up o (ys.take n ++ [p] ++ ys.drop n) := by
  have rp : isRow ks p.2 = true := f.row p (List.mem_cons_self ..)
  have ry : ∀ y ∈ ys, isRow ks y.2 = true := fun y hy => f.row y (List.mem_cons_of_mem _ hy)
  have tp : ∀ y ∈ ys.take n, before o y p = true := fun y hy => by
    obtain ⟨i, hi, e⟩ := List.mem_iff_getElem.mp hy
    rw [List.length_take] at hi
    have e2 : ys[i]? = some y := by
      rw [← e, List.getElem_take]
      exact List.getElem?_eq_getElem (by omega)
    have yy : y ∈ ys := List.mem_of_getElem? e2
    exact after_of ho rp (ry y yy) (nodup_ne (xs := [p]) (ys := ys) f.nd (List.mem_singleton.mpr rfl) yy) (h1 i y (by omega) e2)
  have pd : ∀ y ∈ ys.drop n, before o p y = true := fun y hy => by
    obtain ⟨i, hi, e⟩ := List.mem_iff_getElem.mp hy
    refine h2 (n + i) y (by omega) ?_
    rw [← e, List.getElem_drop]
    exact List.getElem?_eq_getElem (by rw [List.length_drop] at hi; omega)
  have a2 : Up o (ys.take n ++ ys.drop n) := by rw [List.take_append_drop]; exact a
  obtain ⟨b1, b2, b3⟩ := List.pairwise_append.mp a2
  rw [List.append_assoc]
  refine List.pairwise_append.mpr ⟨b1, List.pairwise_cons.mpr ⟨pd, b2⟩, fun x hx z hz => ?_⟩
  rcases List.mem_cons.mp hz with e | e
  · rw [e]; exact tp x hx
  · exact b3 x hx z e
abbrev N_in_order : List Str := ["order", "pairs", "half"]
abbrev P_in_order : List Str := ["order", "pairs"]
def sortSpec (K : PySem.W.Frag) (most : Nat) : Sp := fun vs H Q E => match vs with
  | [ov, pv] => ∃ ks o xs, LstV TurnAt H ov o ∧ LstV PairAt H pv xs ∧ (∀ t ∈ o, t.1 < ks.length) ∧ Fine ks xs ∧ xs.length ≤ most ∧
    ∀ f ys H', H f = none → Lst PairAt H' f ys → ys.Perm xs → Up o ys → Same H H' → Q (.ref f) H'
  | _ => False
def spr_in_order (K : PySem.W.Frag) : Nat → Sp
  | 0 => fun _ _ _ _ => False
  | d + 1 => sortSpec K (min 1000 (2 ^ d))
abbrev sp_in_order (K : PySem.W.Frag) : Sp := spr_in_order K 9
theorem len_in_order (K : PySem.W.Frag) : ∀ d vs H Q E, spr_in_order K d vs H Q E → vs.length = 2
  | 0, _, _, _, _, h => h.elim
  | d + 1, vs, H, Q, E, h => by
    unfold spr_in_order at h
    match vs, h with
    | [_, _], _ => rfl
theorem no_in_order (K : PySem.W.Frag) : ∀ vs H Q E, ¬ spr_in_order K 0 vs H Q E := fun _ _ _ _ h => h
def t_in_order (K : PySem.W.Frag) (sp : Sp) (E : XK) : TS := (tSeq (tIfS (tTest (tOpC xLt (tCB1 (xLen K) (tVar 1)) (.int 2))) (tRet (tCB1 (xList K) (tVar 1))) tNext)
  (tSeq (tAsg (tOpC xDiv (tCB1 (xLen K) (tVar 1)) (.int 2)) (gName 2))
   (tRet (tCall (sp_joined K) [] E (tCons (tVar 0) (tCons (tCall sp [] E (tCons (tVar 0) (tCons (tSl (rSlL K) (tVar 1) tNoPart (tPart (tVar 2))) tNil))) (tCons (tCall sp [] E (tCons (tVar 0) (tCons (tSl (rSlL K) (tVar 1) (tPart (tVar 2)) tNoPart) tNil))) tNil)))))))
theorem pure_in_order {K : PySem.W.Frag} (d : Nat) : ∀ vs H Q E, spr_in_order K (d + 1) vs H Q E → t_in_order K (spr_in_order K d) E { nx := fun _ H' => Q .non H', rt := Q } (start N_in_order vs) H := by
  intro vs H Q E h
  unfold spr_in_order at h
  match vs, h with
  | [ov, pv], h =>
    obtain ⟨ks, o, xs, ho, ⟨lx, rfl, xv, hx, hxs⟩, hcol, hf, hlen, k⟩ := h
    have hl := hxs.length
    refine ⟨_, rfl, _, _, rfl, .inl (SqL.of hx), _, _, rfl, rfl, _, rfl, ?_⟩
    by_cases h2 : (xv.length : Int) < 2
    · rw [decide_eq_true h2]
      refine ⟨_, rfl, _, _, rfl, .inl (SqL.of hx), fun f hf' => ?_⟩
      refine k f xs _ hf' ⟨_, upd_same, Paired.tl PairAt.st (TupLe.new hf') hxs⟩ (.refl _) ?_ (Rs.Same.new hf')
      match xs, hl with
      | [], _ => exact .nil
      | [x], _ => exact List.pairwise_singleton _ _
      | x :: y :: r, e => simp at e; omega
    · rw [decide_eq_false h2]
      obtain ⟨e, rfl⟩ : ∃ e, d = e + 1 := by
        cases d with
        | zero => rw [Nat.pow_zero] at hlen; omega
        | succ e => exact ⟨e, rfl⟩
      have hpow : xs.length ≤ 2 * 2 ^ e := by rw [Nat.pow_succ] at hlen; omega
      refine ⟨_, rfl, _, _, rfl, .inl (SqL.of hx), _, _, rfl, rfl, div_ok (by decide) (by decide), ?_⟩
      have hd : ((xv.length : Int) / 2) = ((xv.length / 2 : Nat) : Int) := by omega
      refine ⟨_, rfl, _, rfl, _, rfl, _, rfl, _, rfl, _, _, rfl, SqL.of hx, fun p hp => ?_⟩
      rw [hd, cut_to (by omega)]
      have s1 := Rs.Same.new (o := .lst (xv.take (xv.length / 2))) hp
      refine ⟨ks, o, xs.take (xv.length / 2), LstV.same TurnAt.st s1 ho, ⟨p, rfl, _, upd_same, Paired.tl PairAt.st (TupLe.same s1) (P2.take _ hxs)⟩, hcol, hf.take _, by rw [List.length_take]; omega, fun f1 ys1 H1 n1 hy1 p1 u1 s2 => ?_⟩
      have s12 := s1.trans s2
      refine ⟨_, rfl, _, rfl, _, rfl, _, rfl, _, _, rfl, SqL.of (s12 _ _ hx), fun q hq => ?_⟩
      rw [hd, cut_from (by omega)]
      have s3 := Rs.Same.new (o := .lst (xv.drop (xv.length / 2))) hq
      have s13 := s12.trans s3
      refine ⟨ks, o, xs.drop (xv.length / 2), LstV.same TurnAt.st s13 ho, ⟨q, rfl, _, upd_same, Paired.tl PairAt.st (TupLe.same s13) (P2.drop _ hxs)⟩, hcol, hf.drop _, by rw [List.length_drop]; omega, fun f2 ys2 H2 n2 hy2 p2 u2 s4 => ?_⟩
      have s14 := s13.trans s4
      have pp : (ys1 ++ ys2).Perm xs := by
        have := p1.append p2
        rw [List.take_append_drop] at this
        exact this
      have hy1' : Lst PairAt H2 f1 ys1 := Lst.same PairAt.st (s3.trans s4) hy1
      have ff : Fine ks (ys1 ++ ys2) := hf.perm pp
      refine ⟨o, ys1, ys2, LstV.same TurnAt.st s14 ho, ⟨f1, rfl, hy1'⟩, ⟨f2, rfl, hy2⟩, fun x hx y hy => cmp_of hcol (ff.row x (List.mem_append_left _ hx)) (ff.row y (List.mem_append_right _ hy)), ?_, fun f H3 nf hres s5 => ?_⟩
      · have e := pp.length_eq
        rw [List.length_append] at e
        omega
      · exact k f _ H3 (s14.free nf) hres ((mrg_perm o ys2 ys1).trans pp) (mrg_up hcol _ _ ff u1 u2) (s14.trans s5)
abbrev N_law_sorted : List Str := ["_law_order_here", "_law_pairs_here", "_law_found", "_law_pair", "_law_low", "_law_high", "_law_half"]
abbrev P_law_sorted : List Str := ["_law_order_here", "_law_pairs_here"]
def sp_law_sorted (K : PySem.W.Frag) : Sp := sortSpec K 1000
def t_law_sorted (K : PySem.W.Frag) (E : XK) : TS := (tSeq (tAsg (tLst tNil) (gName 2))
  (tSeq (tFor (iList K (tVar 1)) (gName 3) 
     (tSeq (tPar 4 5 (tConsC (.int 0) (tCons (tCB1 (xLen K) (tVar 2)) tNil)))
     (tSeq (tWhile (tTest (tOp xLt (tVar 4) (tVar 5))) 
        (tSeq (tAsg (tOpC xDiv (tOp xAdd (tVar 4) (tVar 5)) (.int 2)) (gName 6))
        (tIfS (tB (tCall (sp_law_ahead K) [] E (tCons (tVar 0) (tCons (tVar 3) (tCons (tOp (rIxL K) (tVar 2) (tVar 6)) tNil))))) (tAsg (tVar 6) (gName 5)) (tAsg (tOpC xAdd (tVar 6) (.int 1)) (gName 4)))))
      (tDrop (tBM K "list" xInsert (tVar 2) (tCons (tVar 4) (tCons (tVar 3) tNil)))))))
   (tRet (tVar 2))))
theorem pure_law_sorted {K : PySem.W.Frag} : ∀ vs H Q E, sp_law_sorted K vs H Q E → t_law_sorted K E { nx := fun _ H' => Q .non H', rt := Q } (start N_law_sorted vs) H := by
  intro vs H Q E h
  unfold sp_law_sorted at h
  match vs, h with
  | [ov, pv], h =>
    obtain ⟨ks, o, xs, ho, ⟨lx, rfl, xv, hx, hxs⟩, hcol, hf, hlen, k⟩ := h
    have hl := hxs.length
    refine ⟨sz0, fun f hn => ?_⟩
    refine ⟨_, rfl, lx, rfl, ⟨_, SqL.of (un hx hn)⟩, ?_⟩
    refine for_list (K := K) (a := lx) (xs := xv) (fun i σ H' => ∃ (ys : List Pr) (x3 x4 x5 x6 : Option V), σ = [some ov, some (.ref lx), some (.ref f), x3, x4, x5, x6] ∧ Same H H' ∧ Lst PairAt H' f ys ∧ ys.Perm (xs.take i) ∧ Up o ys)
      ⟨[], none, none, none, none, rfl, Rs.Same.new hn, ⟨[], upd_same, .nil⟩, by simp, .nil⟩ ?_ ?_ ?_
    · rintro i σ H' _ ⟨_, _, _, _, _, _, s, _⟩
      exact SqL.of (s _ _ hx)
    · rintro i v σ H' hi ⟨ys, x3, x4, x5, x6, rfl, s, ⟨yv, hy, hys⟩, hp, hu⟩
      obtain ⟨p, hp', hpa⟩ := P2.get hxs hi
      have hil := (List.getElem?_eq_some_iff.mp hi).1
      have hyl := hys.length
      have hpl := hp.length_eq
      rw [List.length_take] at hpl
      have tH := TupLe.same s
      have pp : (p :: ys).Perm (xs.take (i + 1)) := by
        rw [List.take_succ, hp']
        show (p :: ys).Perm (xs.take i ++ [p])
        exact (List.Perm.cons p hp).trans (List.perm_append_comm (l₁ := [p]) (l₂ := xs.take i))
      have ff : Fine ks (p :: ys) := (hf.take (i + 1)).perm pp
      refine ⟨_, rfl, _, _, rfl, .inl (SqL.of hy), _, _, rfl, ?_⟩
      refine ⟨fun m σ H1 => ∃ (lo hi : Nat) (x6 : Option V), m = hi - lo ∧ σ = [some ov, some (.ref lx), some (.ref f), some v, some (.int (lo : Int)), some (.int (hi : Int)), x6] ∧ H1 = H' ∧ lo ≤ hi ∧ hi ≤ ys.length ∧ (∀ j y, j < lo → ys[j]? = some y → before o p y = false) ∧ (∀ j y, hi ≤ j → ys[j]? = some y → before o p y = true),
        ⟨_, 0, ys.length, x6, rfl, by rw [← hyl]; rfl, rfl, Nat.zero_le _, Nat.le_refl _, fun j y h => absurd h (Nat.not_lt_zero _), fun j y h e => absurd (List.getElem?_eq_some_iff.mp e).1 (by omega)⟩, ?_⟩
      rintro m σ H1 ⟨lo, hi_, x6, rfl, rfl, rfl, h1, h2, ha, hb⟩
      refine ⟨_, rfl, _, rfl, _, _, rfl, rfl, _, rfl, ?_⟩
      by_cases hlt : (lo : Int) < (hi_ : Int)
      · rw [decide_eq_true hlt]
        have hmid : ((lo : Int) + (hi_ : Int)) / 2 = (((lo + hi_) / 2 : Nat) : Int) := by omega
        have hmlt : (lo + hi_) / 2 < ys.length := by omega
        obtain ⟨w, hw, hwa⟩ := P2.get' hys (List.getElem?_eq_getElem hmlt)
        refine ⟨fun σ H2 => ∃ (lo2 hi2 : Nat) (x6 : Option V), hi2 - lo2 < hi_ - lo ∧ σ = [some ov, some (.ref lx), some (.ref f), some v, some (.int (lo2 : Int)), some (.int (hi2 : Int)), x6] ∧ H2 = H1 ∧ lo2 ≤ hi2 ∧ hi2 ≤ ys.length ∧ (∀ j y, j < lo2 → ys[j]? = some y → before o p y = false) ∧ (∀ j y, hi2 ≤ j → ys[j]? = some y → before o p y = true), ?_, ?_⟩
        · rintro σ H2 ⟨lo2, hi2, x6, g1, g2⟩
          exact ⟨_, g1, lo2, hi2, x6, rfl, g2⟩
        · refine ⟨_, rfl, _, rfl, _, _, rfl, rfl, _, _, rfl, rfl, div_ok (by decide) (by decide), ?_⟩
          dsimp only
          rw [hmid]
          refine ⟨_, rfl, _, rfl, _, rfl, _, rfl, _, _, _, _, rfl, rfl, SqL.of hy, at_of rfl hw, o, p, ys[(lo + hi_) / 2], LstV.same TurnAt.st s ho, PairAt.st _ _ _ _ tH hpa, hwa, cmp_of hcol (ff.row p (List.mem_cons_self ..)) (ff.row _ (List.mem_cons_of_mem _ (List.getElem_mem hmlt))), _, rfl, ?_⟩
          -- all behind, ahead of the middle
          have rp : isRow ks p.2 = true := ff.row p (List.mem_cons_self ..)
          have rr : ∀ y ∈ ys, isRow ks y.2 = true := fun y hy => ff.row y (List.mem_cons_of_mem _ hy)
          cases hc : before o p ys[(lo + hi_) / 2] with
          | true =>
            refine ⟨_, rfl, lo, (lo + hi_) / 2, _, by omega, rfl, rfl, by omega, by omega, ha, fun j y hj e => ?_⟩
            have hjl := (List.getElem?_eq_some_iff.mp e).1
            by_cases ej : j = (lo + hi_) / 2
            · subst ej
              rw [List.getElem?_eq_getElem hmlt] at e
              cases e
              exact hc
            · have ey : ys[j] = y := by rw [List.getElem?_eq_getElem hjl] at e; exact Option.some.inj e
              have q := List.pairwise_iff_getElem.mp hu ((lo + hi_) / 2) j hmlt hjl (by omega)
              rw [ey] at q
              exact before_trans o (cmp_of hcol rp (rr _ (List.getElem_mem hmlt))) (cmp_of hcol (rr _ (List.getElem_mem hmlt)) (rr y (List.mem_of_getElem? e))) hc q
          | false =>
            refine ⟨_, rfl, _, _, rfl, rfl, (lo + hi_) / 2 + 1, hi_, _, by omega, rfl, rfl, by omega, by omega, fun j y hj e => ?_, hb⟩
            have hjl := (List.getElem?_eq_some_iff.mp e).1
            by_cases ej : j = (lo + hi_) / 2
            · subst ej
              rw [List.getElem?_eq_getElem hmlt] at e
              cases e
              exact hc
            · have ey : ys[j] = y := by rw [List.getElem?_eq_getElem hjl] at e; exact Option.some.inj e
              have q := List.pairwise_iff_getElem.mp hu j ((lo + hi_) / 2) hjl hmlt (by omega)
              rw [ey] at q
              cases hpy : before o p y with
              | false => rfl
              | true =>
                have t := before_trans o (cmp_of hcol rp (rr y (List.mem_of_getElem? e))) (cmp_of hcol (rr y (List.mem_of_getElem? e)) (rr _ (List.getElem_mem hmlt))) hpy q
                rw [hc] at t
                cases t
      · rw [decide_eq_false hlt]
        have elo : lo = hi_ := by omega
        refine ⟨_, rfl, .inl ⟨rfl, _, SqL.of hy⟩, _, rfl, _, rfl, _, _, _, _, rfl, rfl, hy, szlt (by omega), by omega, by omega, ?_⟩
        have t2 : TupLe H1 (upd H1 f (.lst (yv.take lo ++ [v] ++ yv.drop lo))) := (TupLe.refl H1).list hy
        refine ⟨ys.take lo ++ [p] ++ ys.drop lo, _, _, _, _, rfl, Rs.Same.mut s hn, ⟨_, upd_same, ?_⟩, ?_, put_up hcol ff hu ha (by rw [elo]; exact hb)⟩
        · exact P2.app (P2.app (Paired.tl PairAt.st t2 (P2.take _ hys)) (P2.one (PairAt.st _ _ _ _ (tH.trans t2) hpa))) (Paired.tl PairAt.st t2 (P2.drop _ hys))
        · refine List.Perm.trans ?_ pp
          rw [List.append_assoc]
          refine List.perm_middle.trans ?_
          show (p :: (ys.take lo ++ ys.drop lo)).Perm (p :: ys)
          rw [List.take_append_drop]
    · rintro σ H' ⟨ys, x3, x4, x5, x6, rfl, s, hy, hp, hu⟩
      rw [List.take_of_length_le (by omega)] at hp
      exact ⟨_, rfl, k f ys H' hn hy hp hu s⟩
end Rs

namespace Rs
open PySem PySem.Spec PyProof.Rows L2
structure TxtRoom (K : PySem.W.Frag) : Prop where
  cl : Cls K (He.ga K "Room")
  n_order : NoAttr K (He.ga K "Room") "order"
  n_cells : NoAttr K (He.ga K "Room") "cells"
def f_Room (x0 x1 : V) : List (Str × V) := [(("order" : Str), x0), (("cells" : Str), x1)]
def RoomOb (K : PySem.W.Frag) (H : Hp) (p : Addr) (x0 x1 : V) : Prop := ∃ dx, H p = some (.ins (He.ga K "Room") dx (f_Room x0 x1))
section
variable {K : PySem.W.Frag} {x0 x1 y : V} {H : Hp} {Q : VK} {p : Addr} {D : Ends} {σ : L2.St}
theorem fl_Room_order : (f_Room x0 x1).lookup ("order" : Str) = some x0 := by
  unfold f_Room
  rw [lk_hd]
theorem pf_Room_order : putF "order" y (f_Room x0 x1) = f_Room y x1 := by
  unfold f_Room
  rw [put_hd]
theorem g_Room_order (T : TxtRoom K) (h : RoomOb K H p x0 x1) (q : Q x0 H) : rFld K "order" (.ref p) H Q := let ⟨dx, h⟩ := h; ⟨p, _, dx, _, _, rfl, h, T.cl, T.n_order, fl_Room_order, q⟩
theorem s_Room_order (T : TxtRoom K) (h : RoomOb K H p x0 x1) (q : ∀ dx, H p = some (.ins (He.ga K "Room") dx (f_Room x0 x1)) → D.nx σ (upd H p (.ins (He.ga K "Room") dx (f_Room y x1)))) : rSFl K "order" (.ref p) y D σ H := by
  obtain ⟨dx, h⟩ := h
  refine ⟨p, _, dx, _, rfl, h, T.cl, T.n_order, by show 2 < 1000; decide, ?_⟩
  rw [pf_Room_order]
  exact q dx h
theorem fl_Room_cells : (f_Room x0 x1).lookup ("cells" : Str) = some x1 := by
  unfold f_Room
  rw [lk_tl (by decide +kernel), lk_hd]
theorem pf_Room_cells : putF "cells" y (f_Room x0 x1) = f_Room x0 y := by
  unfold f_Room
  rw [put_tl (by decide +kernel), put_hd]
theorem g_Room_cells (T : TxtRoom K) (h : RoomOb K H p x0 x1) (q : Q x1 H) : rFld K "cells" (.ref p) H Q := let ⟨dx, h⟩ := h; ⟨p, _, dx, _, _, rfl, h, T.cl, T.n_cells, fl_Room_cells, q⟩
theorem s_Room_cells (T : TxtRoom K) (h : RoomOb K H p x0 x1) (q : ∀ dx, H p = some (.ins (He.ga K "Room") dx (f_Room x0 x1)) → D.nx σ (upd H p (.ins (He.ga K "Room") dx (f_Room x0 y)))) : rSFl K "cells" (.ref p) y D σ H := by
  obtain ⟨dx, h⟩ := h
  refine ⟨p, _, dx, _, rfl, h, T.cl, T.n_cells, by show 2 < 1000; decide, ?_⟩
  rw [pf_Room_cells]
  exact q dx h
theorem no_Room_is_less : (f_Room x0 x1).lookup ("is_less" : Str) = none := by
  unfold f_Room
  rw [lk_tl (by decide +kernel), lk_tl (by decide +kernel), lk_nil]
theorem no_Room_put : (f_Room x0 x1).lookup ("put" : Str) = none := by
  unfold f_Room
  rw [lk_tl (by decide +kernel), lk_tl (by decide +kernel), lk_nil]
theorem no_Room_swap : (f_Room x0 x1).lookup ("swap" : Str) = none := by
  unfold f_Room
  rw [lk_tl (by decide +kernel), lk_tl (by decide +kernel), lk_nil]
theorem no_Room_lesser : (f_Room x0 x1).lookup ("lesser" : Str) = none := by
  unfold f_Room
  rw [lk_tl (by decide +kernel), lk_tl (by decide +kernel), lk_nil]
theorem no_Room_take : (f_Room x0 x1).lookup ("take" : Str) = none := by
  unfold f_Room
  rw [lk_tl (by decide +kernel), lk_tl (by decide +kernel), lk_nil]
theorem no_Room_first_run : (f_Room x0 x1).lookup ("first_run" : Str) = none := by
  unfold f_Room
  rw [lk_tl (by decide +kernel), lk_tl (by decide +kernel), lk_nil]
theorem no_Room_many_in : (f_Room x0 x1).lookup ("many_in" : Str) = none := by
  unfold f_Room
  rw [lk_tl (by decide +kernel), lk_tl (by decide +kernel), lk_nil]
end
structure TxtMaker (K : PySem.W.Frag) : Prop where
  cl : Cls K (He.ga K "Maker")
  n_order : NoAttr K (He.ga K "Maker") "order"
  n_size : NoAttr K (He.ga K "Maker") "size"
  n_room : NoAttr K (He.ga K "Maker") "room"
  n_run : NoAttr K (He.ga K "Maker") "run"
  n_last : NoAttr K (He.ga K "Maker") "last"
def f_Maker (x0 x1 x2 x3 x4 : V) : List (Str × V) := [(("order" : Str), x0), (("size" : Str), x1), (("room" : Str), x2), (("run" : Str), x3), (("last" : Str), x4)]
def MakerOb (K : PySem.W.Frag) (H : Hp) (p : Addr) (x0 x1 x2 x3 x4 : V) : Prop := ∃ dx, H p = some (.ins (He.ga K "Maker") dx (f_Maker x0 x1 x2 x3 x4))
section
variable {K : PySem.W.Frag} {x0 x1 x2 x3 x4 y : V} {H : Hp} {Q : VK} {p : Addr} {D : Ends} {σ : L2.St}
theorem fl_Maker_order : (f_Maker x0 x1 x2 x3 x4).lookup ("order" : Str) = some x0 := by
  unfold f_Maker
  rw [lk_hd]
theorem pf_Maker_order : putF "order" y (f_Maker x0 x1 x2 x3 x4) = f_Maker y x1 x2 x3 x4 := by
  unfold f_Maker
  rw [put_hd]
theorem g_Maker_order (T : TxtMaker K) (h : MakerOb K H p x0 x1 x2 x3 x4) (q : Q x0 H) : rFld K "order" (.ref p) H Q := let ⟨dx, h⟩ := h; ⟨p, _, dx, _, _, rfl, h, T.cl, T.n_order, fl_Maker_order, q⟩
theorem s_Maker_order (T : TxtMaker K) (h : MakerOb K H p x0 x1 x2 x3 x4) (q : ∀ dx, H p = some (.ins (He.ga K "Maker") dx (f_Maker x0 x1 x2 x3 x4)) → D.nx σ (upd H p (.ins (He.ga K "Maker") dx (f_Maker y x1 x2 x3 x4)))) : rSFl K "order" (.ref p) y D σ H := by
  obtain ⟨dx, h⟩ := h
  refine ⟨p, _, dx, _, rfl, h, T.cl, T.n_order, by show 5 < 1000; decide, ?_⟩
  rw [pf_Maker_order]
  exact q dx h
theorem fl_Maker_size : (f_Maker x0 x1 x2 x3 x4).lookup ("size" : Str) = some x1 := by
  unfold f_Maker
  rw [lk_tl (by decide +kernel), lk_hd]
theorem pf_Maker_size : putF "size" y (f_Maker x0 x1 x2 x3 x4) = f_Maker x0 y x2 x3 x4 := by
  unfold f_Maker
  rw [put_tl (by decide +kernel), put_hd]
theorem g_Maker_size (T : TxtMaker K) (h : MakerOb K H p x0 x1 x2 x3 x4) (q : Q x1 H) : rFld K "size" (.ref p) H Q := let ⟨dx, h⟩ := h; ⟨p, _, dx, _, _, rfl, h, T.cl, T.n_size, fl_Maker_size, q⟩
theorem s_Maker_size (T : TxtMaker K) (h : MakerOb K H p x0 x1 x2 x3 x4) (q : ∀ dx, H p = some (.ins (He.ga K "Maker") dx (f_Maker x0 x1 x2 x3 x4)) → D.nx σ (upd H p (.ins (He.ga K "Maker") dx (f_Maker x0 y x2 x3 x4)))) : rSFl K "size" (.ref p) y D σ H := by
  obtain ⟨dx, h⟩ := h
  refine ⟨p, _, dx, _, rfl, h, T.cl, T.n_size, by show 5 < 1000; decide, ?_⟩
  rw [pf_Maker_size]
  exact q dx h
theorem fl_Maker_room : (f_Maker x0 x1 x2 x3 x4).lookup ("room" : Str) = some x2 := by
  unfold f_Maker
  rw [lk_tl (by decide +kernel), lk_tl (by decide +kernel), lk_hd]
theorem pf_Maker_room : putF "room" y (f_Maker x0 x1 x2 x3 x4) = f_Maker x0 x1 y x3 x4 := by
  unfold f_Maker
  rw [put_tl (by decide +kernel), put_tl (by decide +kernel), put_hd]
theorem g_Maker_room (T : TxtMaker K) (h : MakerOb K H p x0 x1 x2 x3 x4) (q : Q x2 H) : rFld K "room" (.ref p) H Q := let ⟨dx, h⟩ := h; ⟨p, _, dx, _, _, rfl, h, T.cl, T.n_room, fl_Maker_room, q⟩
theorem s_Maker_room (T : TxtMaker K) (h : MakerOb K H p x0 x1 x2 x3 x4) (q : ∀ dx, H p = some (.ins (He.ga K "Maker") dx (f_Maker x0 x1 x2 x3 x4)) → D.nx σ (upd H p (.ins (He.ga K "Maker") dx (f_Maker x0 x1 y x3 x4)))) : rSFl K "room" (.ref p) y D σ H := by
  obtain ⟨dx, h⟩ := h
  refine ⟨p, _, dx, _, rfl, h, T.cl, T.n_room, by show 5 < 1000; decide, ?_⟩
  rw [pf_Maker_room]
  exact q dx h
theorem fl_Maker_run : (f_Maker x0 x1 x2 x3 x4).lookup ("run" : Str) = some x3 := by
  unfold f_Maker
  rw [lk_tl (by decide +kernel), lk_tl (by decide +kernel), lk_tl (by decide +kernel), lk_hd]
theorem pf_Maker_run : putF "run" y (f_Maker x0 x1 x2 x3 x4) = f_Maker x0 x1 x2 y x4 := by
  unfold f_Maker
  rw [put_tl (by decide +kernel), put_tl (by decide +kernel), put_tl (by decide +kernel), put_hd]
theorem g_Maker_run (T : TxtMaker K) (h : MakerOb K H p x0 x1 x2 x3 x4) (q : Q x3 H) : rFld K "run" (.ref p) H Q := let ⟨dx, h⟩ := h; ⟨p, _, dx, _, _, rfl, h, T.cl, T.n_run, fl_Maker_run, q⟩
theorem s_Maker_run (T : TxtMaker K) (h : MakerOb K H p x0 x1 x2 x3 x4) (q : ∀ dx, H p = some (.ins (He.ga K "Maker") dx (f_Maker x0 x1 x2 x3 x4)) → D.nx σ (upd H p (.ins (He.ga K "Maker") dx (f_Maker x0 x1 x2 y x4)))) : rSFl K "run" (.ref p) y D σ H := by
  obtain ⟨dx, h⟩ := h
  refine ⟨p, _, dx, _, rfl, h, T.cl, T.n_run, by show 5 < 1000; decide, ?_⟩
  rw [pf_Maker_run]
  exact q dx h
theorem fl_Maker_last : (f_Maker x0 x1 x2 x3 x4).lookup ("last" : Str) = some x4 := by
  unfold f_Maker
  rw [lk_tl (by decide +kernel), lk_tl (by decide +kernel), lk_tl (by decide +kernel), lk_tl (by decide +kernel), lk_hd]
theorem pf_Maker_last : putF "last" y (f_Maker x0 x1 x2 x3 x4) = f_Maker x0 x1 x2 x3 y := by
  unfold f_Maker
  rw [put_tl (by decide +kernel), put_tl (by decide +kernel), put_tl (by decide +kernel), put_tl (by decide +kernel), put_hd]
theorem g_Maker_last (T : TxtMaker K) (h : MakerOb K H p x0 x1 x2 x3 x4) (q : Q x4 H) : rFld K "last" (.ref p) H Q := let ⟨dx, h⟩ := h; ⟨p, _, dx, _, _, rfl, h, T.cl, T.n_last, fl_Maker_last, q⟩
theorem s_Maker_last (T : TxtMaker K) (h : MakerOb K H p x0 x1 x2 x3 x4) (q : ∀ dx, H p = some (.ins (He.ga K "Maker") dx (f_Maker x0 x1 x2 x3 x4)) → D.nx σ (upd H p (.ins (He.ga K "Maker") dx (f_Maker x0 x1 x2 x3 y)))) : rSFl K "last" (.ref p) y D σ H := by
  obtain ⟨dx, h⟩ := h
  refine ⟨p, _, dx, _, rfl, h, T.cl, T.n_last, by show 5 < 1000; decide, ?_⟩
  rw [pf_Maker_last]
  exact q dx h
theorem no_Maker_has_space : (f_Maker x0 x1 x2 x3 x4).lookup ("has_space" : Str) = none := by
  unfold f_Maker
  rw [lk_tl (by decide +kernel), lk_tl (by decide +kernel), lk_tl (by decide +kernel), lk_tl (by decide +kernel), lk_tl (by decide +kernel), lk_nil]
theorem no_Maker_come : (f_Maker x0 x1 x2 x3 x4).lookup ("come" : Str) = none := by
  unfold f_Maker
  rw [lk_tl (by decide +kernel), lk_tl (by decide +kernel), lk_tl (by decide +kernel), lk_tl (by decide +kernel), lk_tl (by decide +kernel), lk_nil]
theorem no_Maker_goes : (f_Maker x0 x1 x2 x3 x4).lookup ("goes" : Str) = none := by
  unfold f_Maker
  rw [lk_tl (by decide +kernel), lk_tl (by decide +kernel), lk_tl (by decide +kernel), lk_tl (by decide +kernel), lk_tl (by decide +kernel), lk_nil]
theorem no_Maker_turn : (f_Maker x0 x1 x2 x3 x4).lookup ("turn" : Str) = none := by
  unfold f_Maker
  rw [lk_tl (by decide +kernel), lk_tl (by decide +kernel), lk_tl (by decide +kernel), lk_tl (by decide +kernel), lk_tl (by decide +kernel), lk_nil]
theorem no_Maker_those_left : (f_Maker x0 x1 x2 x3 x4).lookup ("those_left" : Str) = none := by
  unfold f_Maker
  rw [lk_tl (by decide +kernel), lk_tl (by decide +kernel), lk_tl (by decide +kernel), lk_tl (by decide +kernel), lk_tl (by decide +kernel), lk_nil]
end
/-! ### a heap in a list: swaps up and down -/
def swp {α : Type} (d : α) (cs : List α) (i j : Nat) : List α := (cs.set i (cs.getD j d)).set j (cs.getD i d)
section
variable {α : Type} {d : α} {cs : List α} {i j k : Nat}
theorem swp_len : (swp d cs i j).length = cs.length := by unfold swp; rw [List.length_set, List.length_set]
theorem getD_set (x : α) (hi : i < cs.length) : (cs.set i x).getD k d = if k = i then x else cs.getD k d := by
  rw [List.getD_eq_getElem?_getD, List.getD_eq_getElem?_getD]
  by_cases e : k = i
  · subst e
    rw [if_pos rfl, List.getElem?_set_self hi]
    rfl
  · rw [if_neg e, List.getElem?_set_ne (Ne.symm e)]
theorem swp_get (hi : i < cs.length) (hj : j < cs.length) : (swp d cs i j).getD k d = if k = j then cs.getD i d else if k = i then cs.getD j d else cs.getD k d := by
  unfold swp
  rw [getD_set _ (by rw [List.length_set]; exact hj), getD_set _ hi]
theorem getD_lt (hi : i < cs.length) : cs.getD i d = cs[i] := by
  rw [List.getD_eq_getElem?_getD, List.getElem?_eq_getElem hi]
  rfl
theorem swp_perm (hi : i < cs.length) (hj : j < cs.length) : (swp d cs i j).Perm cs := by
  unfold swp
  rw [getD_lt hi, getD_lt hj]
  exact List.set_set_perm hi hj
theorem getD_mem (hi : i < cs.length) : cs.getD i d ∈ cs := by
  rw [getD_lt hi]
  exact List.getElem_mem hi
end
/-- a strict order of those that are ok -/
structure Strict {α : Type} (ok : α → Prop) (lt : α → α → Bool) : Prop where
  asym : ∀ a b, ok a → ok b → lt a b = true → lt b a = false
  neg : ∀ a b c, ok a → ok b → ok c → lt b a = false → lt c b = false → lt c a = false
section
variable {α : Type} {ok : α → Prop} {lt : α → α → Bool} {d : α}
/-- no cell is ahead of the one above it -/
def IsHeap (lt : α → α → Bool) (d : α) (cs : List α) : Prop := ∀ i, 0 < i → i < cs.length → lt (cs.getD i d) (cs.getD ((i - 1) / 2) d) = false
def HeapUp (lt : α → α → Bool) (d : α) (cs : List α) (at_ : Nat) : Prop :=
  (∀ i, 0 < i → i < cs.length → i ≠ at_ → lt (cs.getD i d) (cs.getD ((i - 1) / 2) d) = false) ∧ ∀ i, 0 < i → i < cs.length → (i - 1) / 2 = at_ → 0 < at_ → lt (cs.getD i d) (cs.getD ((at_ - 1) / 2) d) = false
def HeapDown (lt : α → α → Bool) (d : α) (cs : List α) (at_ : Nat) : Prop :=
  (∀ i, 0 < i → i < cs.length → (i - 1) / 2 ≠ at_ → lt (cs.getD i d) (cs.getD ((i - 1) / 2) d) = false) ∧ ∀ i, 0 < i → i < cs.length → (i - 1) / 2 = at_ → 0 < at_ → lt (cs.getD i d) (cs.getD ((at_ - 1) / 2) d) = false
theorem up_turn (S : Strict ok lt) {cs : List α} {a : Nat} (hok : ∀ x ∈ cs, ok x) (h : HeapUp lt d cs a) (h0 : 0 < a) (ha : a < cs.length) (hl : lt (cs.getD a d) (cs.getD ((a - 1) / 2) d) = true) : HeapUp lt d (swp d cs a ((a - 1) / 2)) ((a - 1) / 2) := by
  have hp : (a - 1) / 2 < cs.length := by omega
  have hpa : (a - 1) / 2 < a := by omega
  have O : ∀ {i}, i < cs.length → ok (cs.getD i d) := fun hi => hok _ (getD_mem hi)
  generalize hpe : (a - 1) / 2 = p at hl hp hpa
  refine ⟨fun i h1 h2 h3 => ?_, fun i h1 h2 h3 h4 => ?_⟩
  · rw [swp_len] at h2
    rw [swp_get ha hp, swp_get ha hp, if_neg h3]
    by_cases e : i = a
    · subst e
      rw [if_pos rfl, hpe, if_pos rfl]
      exact S.asym _ _ (O h2) (O hp) hl
    · rw [if_neg e]
      by_cases e1 : (i - 1) / 2 = p
      · rw [if_pos e1]
        have q := h.1 i h1 h2 e
        rw [e1] at q
        exact S.neg _ _ _ (O ha) (O hp) (O h2) (S.asym _ _ (O ha) (O hp) hl) q
      · rw [if_neg e1]
        by_cases e2 : (i - 1) / 2 = a
        · rw [if_pos e2]
          have q := h.2 i h1 h2 e2 h0
          rw [hpe] at q
          exact q
        · rw [if_neg e2]
          exact h.1 i h1 h2 e
  · rw [swp_len] at h2
    have hg : (p - 1) / 2 < cs.length := by omega
    have n1 : (p - 1) / 2 ≠ p := by omega
    have n2 : (p - 1) / 2 ≠ a := by omega
    rw [swp_get ha hp, swp_get ha hp, if_neg n1, if_neg n2, if_neg (by omega : i ≠ p)]
    have q := h.1 p h4 hp (by omega)
    by_cases e : i = a
    · rw [if_pos e]
      exact q
    · rw [if_neg e]
      have q2 := h.1 i h1 h2 e
      rw [h3] at q2
      exact S.neg _ _ _ (O hg) (O hp) (O h2) q q2
theorem up_end {cs : List α} {a : Nat} (h : HeapUp lt d cs a) (e : a = 0 ∨ lt (cs.getD a d) (cs.getD ((a - 1) / 2) d) = false) : IsHeap lt d cs := fun i h1 h2 => by
  by_cases ei : i = a
  · rcases e with e | e
    · omega
    · rw [ei]; exact e
  · exact h.1 i h1 h2 ei
theorem up_start {cs : List α} {x : α} (h : IsHeap lt d cs) : HeapUp lt d (cs ++ [x]) cs.length := by
  have g : ∀ i, i < cs.length → (cs ++ [x]).getD i d = cs.getD i d := fun i hi => by
    rw [List.getD_eq_getElem?_getD, List.getD_eq_getElem?_getD, List.getElem?_append_left hi]
  refine ⟨fun i h1 h2 h3 => ?_, fun i h1 h2 h3 h4 => ?_⟩
  · rw [List.length_append, List.length_singleton] at h2
    rw [g i (by omega), g _ (by omega)]
    exact h i h1 (by omega)
  · rw [List.length_append, List.length_singleton] at h2
    omega
theorem down_turn (S : Strict ok lt) {cs : List α} {a b : Nat} (hok : ∀ x ∈ cs, ok x) (h : HeapDown lt d cs a) (hb0 : 0 < b) (hb : b < cs.length) (hba : (b - 1) / 2 = a) (hmin : ∀ c, 0 < c → c < cs.length → (c - 1) / 2 = a → lt (cs.getD c d) (cs.getD b d) = false)
    (hl : lt (cs.getD b d) (cs.getD a d) = true) : HeapDown lt d (swp d cs a b) b := by
  have ha : a < cs.length := by omega
  have O : ∀ {i}, i < cs.length → ok (cs.getD i d) := fun hi => hok _ (getD_mem hi)
  refine ⟨fun i h1 h2 h3 => ?_, fun i h1 h2 h3 h4 => ?_⟩
  · rw [swp_len] at h2
    rw [swp_get ha hb, swp_get ha hb]
    rw [if_neg (by omega : (i - 1) / 2 ≠ b)]
    by_cases e : i = b
    · subst e
      rw [if_pos rfl, if_pos hba]
      exact S.asym _ _ (O h2) (O ha) hl
    · rw [if_neg e]
      by_cases e1 : (i - 1) / 2 = a
      · rw [if_pos e1, if_neg (by omega : i ≠ a)]
        exact hmin i h1 h2 e1
      · rw [if_neg e1]
        by_cases e2 : i = a
        · subst e2
          rw [if_pos rfl]
          exact h.2 b hb0 hb hba h1
        · rw [if_neg e2]
          exact h.1 i h1 h2 e1
  · rw [swp_len] at h2
    rw [swp_get ha hb, swp_get ha hb, hba, if_neg (by omega : i ≠ b), if_neg (by omega : i ≠ a), if_neg (by omega : a ≠ b), if_pos rfl]
    have q := h.1 i h1 h2 (by omega)
    rw [h3] at q
    exact q
theorem down_end (S : Strict ok lt) {cs : List α} {a : Nat} (hok : ∀ x ∈ cs, ok x) (h : HeapDown lt d cs a) (e : ∀ c, 0 < c → c < cs.length → (c - 1) / 2 = a → ∃ b, b < cs.length ∧ lt (cs.getD c d) (cs.getD b d) = false ∧ lt (cs.getD b d) (cs.getD a d) = false) : IsHeap lt d cs := fun i h1 h2 => by
  have O : ∀ {i}, i < cs.length → ok (cs.getD i d) := fun hi => hok _ (getD_mem hi)
  by_cases ei : (i - 1) / 2 = a
  · obtain ⟨b, hb, q1, q2⟩ := e i h1 h2 ei
    rw [ei]
    exact S.neg _ _ _ (O (by omega)) (O hb) (O h2) q2 q1
  · exact h.1 i h1 h2 ei
/-- the first is the least -/
theorem heap_min (S : Strict ok lt) {cs : List α} (hok : ∀ x ∈ cs, ok x) (h : IsHeap lt d cs) (irr : ∀ x, lt x x = false) : ∀ i, i < cs.length → lt (cs.getD i d) (cs.getD 0 d) = false := by
  have O : ∀ {i}, i < cs.length → ok (cs.getD i d) := fun hi => hok _ (getD_mem hi)
  intro i
  induction i using Nat.strongRecOn with
  | ind i ih =>
    intro hi
    by_cases e : i = 0
    · subst e
      exact irr _
    · exact S.neg _ _ _ (O (by omega)) (O (by omega)) (O hi) (ih ((i - 1) / 2) (by omega) (by omega)) (h i (by omega) hi)
/-- the last put first, then taken off -/
theorem down_start {cs : List α} (h : IsHeap lt d cs) (h0 : 0 < cs.length) : HeapDown lt d (swp d cs 0 (cs.length - 1)).dropLast 0 := by
  have g : ∀ i, i < cs.length - 1 → (swp d cs 0 (cs.length - 1)).dropLast.getD i d = if i = 0 then cs.getD (cs.length - 1) d else cs.getD i d := fun i hi => by
    have e : (swp d cs 0 (cs.length - 1)).dropLast.getD i d = (swp d cs 0 (cs.length - 1)).getD i d := by
      rw [List.getD_eq_getElem?_getD, List.getD_eq_getElem?_getD, List.getElem?_dropLast, swp_len, if_pos hi]
    rw [e, swp_get h0 (by omega), if_neg (by omega : i ≠ cs.length - 1)]
  refine ⟨fun i h1 h2 h3 => ?_, fun i _ _ _ h4 => absurd h4 (Nat.lt_irrefl _)⟩
  rw [List.length_dropLast, swp_len] at h2
  rw [g i h2, g _ (by omega), if_neg (by omega), if_neg h3]
  exact h i h1 (by omega)
end
/-! ### cells of a room: (run, (number, row)) -/
abbrev Cell := Int × Pr
def c0 : Cell := (0, 0, [])
def cless (o : Ord) (c e : Cell) : Bool := if c.1 ≠ e.1 then decide (c.1 < e.1) else before o c.2 e.2
theorem cless_irrefl (o : Ord) (c : Cell) : cless o c c = false := by
  unfold cless
  rw [if_neg (fun h => h rfl)]
  exact before_irrefl o _
/-- what is ahead of another one is ahead of a third, or that one of the other -/
theorem before_co : ∀ (o : Ord) {a b c : Pr}, Cmp o a.2 b.2 → Cmp o b.2 c.2 → before o c a = true → before o c b = true ∨ before o b a = true
  | [], a, b, c, _, _, h => by
    simp only [before, decide_eq_true_eq] at h ⊢
    omega
  | t :: o, a, b, c, h1, h2, h => by
    have l1 := h1.head
    have l2 := h2.head
    rw [before_cons] at h
    rw [before_cons, before_cons]
    by_cases e : kcol c.2 t.1 = kcol a.2 t.1
    · rw [if_pos e] at h
      by_cases e2 : kcol c.2 t.1 = kcol b.2 t.1
      · rw [if_pos e2, if_pos (e2.symm.trans e)]
        exact before_co o h1.tail h2.tail h
      · rw [if_neg e2, if_neg (fun z => e2 (e.trans z.symm))]
        have q := keyLt_tot l2.symm e2
        rw [e] at q ⊢
        rw [q]
        cases keyLt (kcol a.2 t.1) (kcol b.2 t.1) <;> cases t.2 <;> simp
    · rw [if_neg e] at h
      by_cases e2 : kcol c.2 t.1 = kcol b.2 t.1
      · right
        rw [if_neg (fun z => e (e2.trans z)), ← e2]
        exact h
      · rw [if_neg e2]
        by_cases e3 : kcol b.2 t.1 = kcol a.2 t.1
        · left
          rw [e3]
          exact h
        · rw [if_neg e3]
          have q1 := keyLt_tot l2.symm e2
          have q2 := keyLt_tot l1.symm e3
          have q3 := keyLt_tot (l2.symm.trans l1.symm) e
          have hb := beq_iff_eq.mp h
          cases ht : t.2 with
          | true =>
            rw [ht] at hb
            cases k1 : keyLt (kcol c.2 t.1) (kcol b.2 t.1) with
            | true => left; rfl
            | false =>
              cases k2 : keyLt (kcol b.2 t.1) (kcol a.2 t.1) with
              | true => right; rfl
              | false =>
                rw [k1] at q1
                rw [k2] at q2
                have tr := keyLt_trans q2 q1
                rw [q3, hb] at tr
                cases tr
          | false =>
            rw [ht] at hb
            cases k1 : keyLt (kcol c.2 t.1) (kcol b.2 t.1) with
            | false => left; rfl
            | true =>
              cases k2 : keyLt (kcol b.2 t.1) (kcol a.2 t.1) with
              | false => right; rfl
              | true =>
                have tr := keyLt_trans k1 k2
                rw [hb] at tr
                cases tr
theorem cless_strict {ks : List Str} {o : Ord} (ho : ∀ t ∈ o, t.1 < ks.length) : Strict (fun c : Cell => isRow ks c.2.2 = true) (cless o) where
  asym := fun a b ha hb h => by
    cases hba : cless o b a with
    | false => rfl
    | true =>
      unfold cless at h hba
      by_cases e : a.1 = b.1
      · rw [if_neg (fun z => z e)] at h
        rw [if_neg (fun z => z e.symm)] at hba
        have t := before_trans o (cmp_of ho ha hb) (cmp_of ho hb ha) h hba
        rw [before_irrefl] at t
        cases t
      · rw [if_pos e] at h
        rw [if_pos (Ne.symm e)] at hba
        have h1 := of_decide_eq_true h
        have h2 := of_decide_eq_true hba
        omega
  neg := fun a b c ha hb hc h1 h2 => by
    cases hca : cless o c a with
    | false => rfl
    | true =>
      unfold cless at h1 h2 hca
      by_cases e : c.1 = a.1
      · rw [if_neg (fun z => z e)] at hca
        by_cases e1 : b.1 = a.1
        · rw [if_neg (fun z => z e1)] at h1
          rw [if_neg (fun z => z (e.trans e1.symm))] at h2
          rcases before_co o (cmp_of ho ha hb) (cmp_of ho hb hc) hca with q | q
          · rw [q] at h2; cases h2
          · rw [q] at h1; cases h1
        · rw [if_pos e1] at h1
          rw [if_pos (fun z => e1 (z.symm.trans e))] at h2
          have g1 := of_decide_eq_false h1
          have g2 := of_decide_eq_false h2
          omega
      · rw [if_pos e] at hca
        have g := of_decide_eq_true hca
        by_cases e1 : b.1 = a.1
        · rw [if_pos (fun z => e (z.trans e1))] at h2
          have g2 := of_decide_eq_false h2
          omega
        · rw [if_pos e1] at h1
          have g1 := of_decide_eq_false h1
          by_cases e2 : c.1 = b.1
          · omega
          · rw [if_pos e2] at h2
            have g2 := of_decide_eq_false h2
            omega
end Rs

namespace Rs
open PySem PySem.Spec PyProof.Rows L2
/-! ### a room as it stands -/
def CellAt : Rel Cell := fun H v c => ∃ w, IsTp H v [.int c.1, w] ∧ PairAt H w c.2
theorem CellAt.st : Stable CellAt := fun _ _ _ _ t ⟨w, a, b⟩ => ⟨w, a.mono t, PairAt.st _ _ _ _ t b⟩
structure RoomS (K : PySem.W.Frag) (H : Hp) (p lo lc : Addr) (o : Ord) (cs : List Cell) : Prop where
  ob : RoomOb K H p (.ref lo) (.ref lc)
  ord : Lst TurnAt H lo o
  cells : Lst CellAt H lc cs
  ne : lo ≠ lc
theorem RoomOb.keep {K : PySem.W.Frag} {H H' : Hp} {p : Addr} {x y : V} (h : RoomOb K H p x y) (k : ∀ o, H p = some o → H' p = some o) : RoomOb K H' p x y := let ⟨dx, e⟩ := h; ⟨dx, k _ e⟩
theorem RoomOb.same {K : PySem.W.Frag} {H H' : Hp} {p : Addr} {x y : V} (h : RoomOb K H p x y) (s : Same H H') : RoomOb K H' p x y := h.keep fun o => s p o
theorem But.tupL {H H' : Hp} {l : Addr} {vs : List V} (h : H l = some (.lst vs)) (k : But [l] H H') : TupLe H H' := fun c xs e => k c _ e (by
  intro hm
  rw [List.mem_singleton] at hm
  subst hm
  rw [h] at e
  cases e)
theorem ne1 {a b : Addr} (h : a ≠ b) : a ∉ [b] := fun hm => h (List.mem_singleton.mp hm)
theorem RoomS.same {K : PySem.W.Frag} {H H' : Hp} {p lo lc : Addr} {o : Ord} {cs : List Cell} (h : RoomS K H p lo lc o cs) (s : Same H H') : RoomS K H' p lo lc o cs := ⟨h.ob.same s, h.ord.same TurnAt.st s, h.cells.same CellAt.st s, h.ne⟩
theorem RoomS.plc {K : PySem.W.Frag} {H : Hp} {p lo lc : Addr} {o : Ord} {cs : List Cell} (h : RoomS K H p lo lc o cs) : p ≠ lc := by
  obtain ⟨dx, e⟩ := h.ob
  obtain ⟨vs, e2, _⟩ := h.cells
  exact ne_of e e2 (by intro z; cases z)
/-- other cells at the same place -/
theorem RoomS.other {K : PySem.W.Frag} {H H' : Hp} {p lo lc : Addr} {o : Ord} {cs cs' : List Cell} (h : RoomS K H p lo lc o cs) (k : But [lc] H H') (c : Lst CellAt H' lc cs') : RoomS K H' p lo lc o cs' := by
  obtain ⟨vs, e2, _⟩ := h.cells
  have t := But.tupL e2 k
  exact ⟨h.ob.keep fun u e => k _ _ e (ne1 h.plc), h.ord.keep TurnAt.st t fun u e => k _ _ e (ne1 h.ne), c, h.ne⟩
theorem Lst.cell {α : Type} {R : Rel α} {H : Hp} {l : Addr} {xs : List α} (h : Lst R H l xs) {i : Nat} {x : α} (e : xs[i]? = some x) : ∃ vs v, H l = some (.lst vs) ∧ vs[i]? = some v ∧ R H v x := by
  obtain ⟨vs, a, b⟩ := h
  obtain ⟨v, hv, r⟩ := P2.get' b e
  exact ⟨vs, v, a, hv, r⟩
abbrev N_Room___init__ : List Str := ["self", "order"]
abbrev P_Room___init__ : List Str := ["self", "order"]
def sp_Room___init__ (K : PySem.W.Frag) : Sp := fun vs H Q E => match vs with
  | [s, ov] => ∃ p dx lo o, s = .ref p ∧ ov = .ref lo ∧ H p = some (.ins (He.ga K "Room") dx []) ∧ Lst TurnAt H lo o ∧ ∀ lc H', RoomS K H' p lo lc o [] → H lc = none → But [p] H H' → Q .non H'
  | _ => False
def t_Room___init__ (K : PySem.W.Frag) (E : XK) : TS := (tSeq (sFl K (tVar 0) (tVar 1) "order")
  (sFl K (tVar 0) (tLst tNil) "cells"))
theorem pure_Room___init__ {K : PySem.W.Frag} (T : TxtRoom K) : ∀ vs H Q E, sp_Room___init__ K vs H Q E → t_Room___init__ K E { nx := fun _ H' => Q .non H', rt := Q } (start N_Room___init__ vs) H := by
  intro vs H Q E h
  match vs, h with
  | [s, ov], h =>
    obtain ⟨p, dx, lo, o, rfl, rfl, hp, ho, k⟩ := h
    have npo : lo ≠ p := by
      obtain ⟨tv, e, _⟩ := ho
      exact ne_of e hp (by intro z; cases z)
    refine ⟨_, rfl, _, rfl, p, _, dx, _, rfl, hp, T.cl, T.n_order, by show 0 < 1000; decide, ?_⟩
    rw [put_nil]
    refine ⟨sz0, fun lc hl => ?_⟩
    have hl0 : H lc = none := none_of_but (S := [p]) ((But.refl _ _).put (by simp)) hl (ne1 (ne_of_none upd_same hl).symm)
    have npl : p ≠ lc := ne_of_none upd_same hl
    refine ⟨_, rfl, p, _, dx, _, rfl, un upd_same hl, T.cl, T.n_cells, by show 1 < 1000; decide, ?_⟩
    rw [put_tl (by decide +kernel), put_nil]
    have kk : But [p] H (upd (upd (upd H p (.ins (He.ga K "Room") dx [(("order" : Str), .ref lo)])) lc (.lst [])) p (.ins (He.ga K "Room") dx [(("order" : Str), .ref lo), (("cells" : Str), .ref lc)])) := (((But.refl [p] H).put (by simp)).new hl).put (by simp)
    have tt : TupLe H (upd (upd (upd H p (.ins (He.ga K "Room") dx [(("order" : Str), .ref lo)])) lc (.lst [])) p (.ins (He.ga K "Room") dx [(("order" : Str), .ref lo), (("cells" : Str), .ref lc)])) := fun c xs e => kk c _ e (ne1 (ne_of e hp (by intro z; cases z)))
    refine k lc _ ⟨⟨dx, upd_same⟩, ho.keep TurnAt.st tt fun u e => kk _ _ e (ne1 npo), ⟨[], ?_, .nil⟩, ?_⟩ hl0 kk
    · rw [upd_ne npl.symm]
      exact upd_same
    · obtain ⟨tv, e, _⟩ := ho
      exact ne_of_none e hl0
abbrev N_Room_is_less : List Str := ["self", "one", "other"]
abbrev P_Room_is_less : List Str := ["self", "one", "other"]
def sp_Room_is_less (K : PySem.W.Frag) : Sp := fun vs H Q E => match vs with
  | [s, a, b] => ∃ p lo x o c e, s = .ref p ∧ RoomOb K H p (.ref lo) x ∧ Lst TurnAt H lo o ∧ CellAt H a c ∧ CellAt H b e ∧ Cmp o c.2.2 e.2.2 ∧ Q (.bl (cless o c e)) H
  | _ => False
def t_Room_is_less (K : PySem.W.Frag) (E : XK) : TS := (tSeq (tIfS (tTest (tOp rNe (tOpC (rIxT K) (tVar 1) (.int 0)) (tOpC (rIxT K) (tVar 2) (.int 0)))) (tRet (tOp xLt (tOpC (rIxT K) (tVar 1) (.int 0)) (tOpC (rIxT K) (tVar 2) (.int 0)))) tNext)
  (tRet (tCall (sp_is_before K) [] E (tCons (tFl K (tVar 0) "order") (tCons (tOpC (rIxT K) (tVar 1) (.int 1)) (tCons (tOpC (rIxT K) (tVar 2) (.int 1)) tNil))))))
theorem pure_Room_is_less {K : PySem.W.Frag} (T : TxtRoom K) : ∀ vs H Q E, sp_Room_is_less K vs H Q E → t_Room_is_less K E { nx := fun _ H' => Q .non H', rt := Q } (start N_Room_is_less vs) H := by
  intro vs H Q E h
  match vs, h with
  | [s, a, b], h =>
    obtain ⟨p, lo, x, o, c, e, rfl, ob, ho, ⟨w1, ha, hp1⟩, ⟨w2, hb, hp2⟩, hc, k⟩ := h
    refine ⟨_, rfl, ixT ha (j := 0) rfl rfl ⟨_, rfl, ixT hb (j := 0) rfl rfl ⟨rfl, _, rfl, ?_⟩⟩⟩
    unfold cless at k
    by_cases h1 : c.1 = e.1
    · have d1 : (!decide (V.int c.1 = V.int e.1)) = false := by rw [h1]; simp
      rw [d1]
      rw [if_neg (fun z => z h1)] at k
      exact ⟨_, rfl, g_Room_order T ob ⟨_, rfl, ixT ha (j := 1) rfl rfl ⟨_, rfl, ixT hb (j := 1) rfl rfl ⟨o, _, _, ⟨lo, rfl, ho⟩, hp1, hp2, hc, k⟩⟩⟩⟩
    · have d1 : (!decide (V.int c.1 = V.int e.1)) = true := by rw [decide_eq_false fun z => h1 (by injection z)]; rfl
      rw [d1]
      rw [if_pos h1] at k
      exact ⟨_, rfl, ixT ha (j := 0) rfl rfl ⟨_, rfl, ixT hb (j := 0) rfl rfl ⟨_, _, rfl, rfl, k⟩⟩⟩
abbrev N_Room_swap : List Str := ["self", "one", "other"]
abbrev P_Room_swap : List Str := ["self", "one", "other"]
def sp_Room_swap (K : PySem.W.Frag) : Sp := fun vs H Q E => match vs with
  | [s, a, b] => ∃ p lo lc o cs i j, s = .ref p ∧ RoomS K H p lo lc o cs ∧ a = .int ((i : Nat) : Int) ∧ b = .int ((j : Nat) : Int) ∧ i < cs.length ∧ j < cs.length ∧ ∀ H', RoomS K H' p lo lc o (swp c0 cs i j) → But [lc] H H' → Q .non H'
  | _ => False
def t_Room_swap (K : PySem.W.Frag) (E : XK) : TS := (tAsg (tTup (tCons (tOp (rIxL K) (tFl K (tVar 0) "cells") (tVar 2)) (tCons (tOp (rIxL K) (tFl K (tVar 0) "cells") (tVar 1)) tNil))) (gTup K 2 (gCons (gSub (tFl K (tVar 0) "cells") (tVar 1) rSetL) (gCons (gSub (tFl K (tVar 0) "cells") (tVar 2) rSetL) gNil))))
theorem pure_Room_swap {K : PySem.W.Frag} (T : TxtRoom K) : ∀ vs H Q E, sp_Room_swap K vs H Q E → t_Room_swap K E { nx := fun _ H' => Q .non H', rt := Q } (start N_Room_swap vs) H := by
  intro vs H Q E h
  match vs, h with
  | [s, a, b], h =>
    obtain ⟨p, lo, lc, o, cs, i, j, rfl, R, rfl, rfl, hi, hj, k⟩ := h
    obtain ⟨vs, hl, hcs⟩ := R.cells
    have hlen := hcs.length
    obtain ⟨vi, hvi, ri⟩ := P2.get' hcs (List.getElem?_eq_getElem hi)
    obtain ⟨vj, hvj, rj⟩ := P2.get' hcs (List.getElem?_eq_getElem hj)
    refine ⟨_, rfl, g_Room_cells T R.ob ⟨_, rfl, ixL hl (j := j) rfl hvj ⟨_, rfl, g_Room_cells T R.ob ⟨_, rfl, ixL hl (j := i) rfl hvi ⟨szle (by show 2 ≤ 100000; decide), fun t ht => ?_⟩⟩⟩⟩⟩
    have s1 := Rs.Same.new (o := .tup [vj, vi]) ht
    have hl1 := s1 _ _ hl
    refine ⟨t, _, rfl, SqT.of upd_same, rfl, _, _, rfl, ?_⟩
    refine ⟨_, rfl, g_Room_cells T (R.ob.same s1) ⟨_, rfl, _, _, _, i, rfl, rfl, hl1, ixN_nat (by omega), ?_⟩⟩
    have R2 : RoomOb K (upd (upd H t (.tup [vj, vi])) lc (.lst (vs.set i vj))) p (.ref lo) (.ref lc) := (R.ob.same s1).keep fun u e => up e R.plc
    refine ⟨_, _, rfl, ?_⟩
    refine ⟨_, rfl, g_Room_cells T R2 ⟨_, rfl, _, _, _, j, rfl, rfl, upd_same, ixN_nat (by rw [List.length_set]; omega), rfl, ?_⟩⟩
    have kk : But [lc] H (upd (upd (upd H t (.tup [vj, vi])) lc (.lst (vs.set i vj))) lc (.lst ((vs.set i vj).set j vi))) := (((But.refl _ H).new ht).put (by simp)).put (by simp)
    refine k _ (R.other kk ⟨_, upd_same, ?_⟩) kk
    unfold swp
    rw [getD_lt hi, getD_lt hj]
    have t := But.tupL hl kk
    exact P2.set (CellAt.st _ _ _ _ t ri) j (P2.set (CellAt.st _ _ _ _ t rj) i (Paired.tl CellAt.st t hcs))
abbrev N_Room_many_in : List Str := ["self"]
abbrev P_Room_many_in : List Str := ["self"]
def sp_Room_many_in (K : PySem.W.Frag) : Sp := fun vs H Q E => match vs with
  | [s] => ∃ p lo lc o cs, s = .ref p ∧ RoomS K H p lo lc o cs ∧ Q (.int ((cs.length : Nat) : Int)) H
  | _ => False
def t_Room_many_in (K : PySem.W.Frag) (E : XK) : TS := (tRet (tCB1 (xLen K) (tFl K (tVar 0) "cells")))
theorem pure_Room_many_in {K : PySem.W.Frag} (T : TxtRoom K) : ∀ vs H Q E, sp_Room_many_in K vs H Q E → t_Room_many_in K E { nx := fun _ H' => Q .non H', rt := Q } (start N_Room_many_in vs) H := by
  intro vs H Q E h
  match vs, h with
  | [s], h =>
    obtain ⟨p, lo, lc, o, cs, rfl, R, k⟩ := h
    obtain ⟨vs, hl, hcs⟩ := R.cells
    exact ⟨_, rfl, g_Room_cells T R.ob (lenL hl (by rw [hcs.length]) k)⟩
abbrev N_Room_first_run : List Str := ["self"]
abbrev P_Room_first_run : List Str := ["self"]
def sp_Room_first_run (K : PySem.W.Frag) : Sp := fun vs H Q E => match vs with
  | [s] => ∃ p lo lc o cs, s = .ref p ∧ RoomS K H p lo lc o cs ∧ ∀ H', Same H H' → Q (match cs with
    | [] => .non
    | c :: _ => .int c.1) H'
  | _ => False
def t_Room_first_run (K : PySem.W.Frag) (E : XK) : TS := (tRet (tIf (tTest (tOp (xNeE K) (tFl K (tVar 0) "cells") (tLst tNil))) (tOpC (rIxT K) (tOpC (rIxL K) (tFl K (tVar 0) "cells") (.int 0)) (.int 0)) (tC .non)))
theorem pure_Room_first_run {K : PySem.W.Frag} (T : TxtRoom K) : ∀ vs H Q E, sp_Room_first_run K vs H Q E → t_Room_first_run K E { nx := fun _ H' => Q .non H', rt := Q } (start N_Room_first_run vs) H := by
  intro vs H Q E h
  match vs, h with
  | [s], h =>
    obtain ⟨p, lo, lc, o, cs, rfl, R, k⟩ := h
    obtain ⟨vs, hl, hcs⟩ := R.cells
    refine ⟨_, rfl, g_Room_cells T R.ob ⟨sz0, fun t ht => neE hl ht (b := !vs.isEmpty) rfl ⟨_, rfl, ?_⟩⟩⟩
    have s1 := Rs.Same.new (o := .lst []) ht
    cases hcs with
    | nil => exact k _ s1
    | @cons v c vs' cs' hc ht' =>
      obtain ⟨w, hv, _⟩ := hc
      exact ⟨_, rfl, g_Room_cells T (R.ob.same s1) (ixL (s1 _ _ hl) (j := 0) rfl rfl (ixT (hv.mono (TupLe.same s1)) (j := 0) rfl rfl (k _ s1)))⟩
end Rs

namespace Rs
open PySem PySem.Spec PyProof.Rows L2
abbrev N_Room_put : List Str := ["self", "run", "pair", "at"]
abbrev P_Room_put : List Str := ["self", "run", "pair"]
def sp_Room_put (K : PySem.W.Frag) : Sp := fun vs H Q E => match vs with
  | [s, rv, pv] => ∃ p lo lc o cs ks r pr, s = .ref p ∧ rv = .int r ∧ RoomS K H p lo lc o cs ∧ PairAt H pv pr ∧ (∀ t ∈ o, t.1 < ks.length) ∧ isRow ks pr.2 = true ∧ (∀ c ∈ cs, isRow ks c.2.2 = true) ∧ IsHeap (cless o) c0 cs ∧ cs.length ≤ 1000 ∧
    ∀ cs' H', RoomS K H' p lo lc o cs' → IsHeap (cless o) c0 cs' → cs'.Perm ((r, pr) :: cs) → But [lc] H H' → Q .non H'
  | _ => False
def t_Room_put (K : PySem.W.Frag) (E : XK) : TS := (tSeq (tDrop (tBM K "list" rAppend (tFl K (tVar 0) "cells") (tCons (tTup (tCons (tVar 1) (tCons (tVar 2) tNil))) tNil)))
  (tSeq (tAsg (tOpC xSub (tCB1 (xLen K) (tFl K (tVar 0) "cells")) (.int 1)) (gName 3))
   (tWhile (tAnd (tTest (tOpC xGt (tVar 3) (.int 0))) (tB (tMeth (He.ga K "Room") "is_less" (sp_Room_is_less K) [] E (tVar 0) (tCons (tOp (rIxL K) (tFl K (tVar 0) "cells") (tVar 3)) (tCons (tOp (rIxL K) (tFl K (tVar 0) "cells") (tOpC xDiv (tOpC xSub (tVar 3) (.int 1)) (.int 2))) tNil))))) 
      (tSeq (tDrop (tMeth (He.ga K "Room") "swap" (sp_Room_swap K) [] E (tVar 0) (tCons (tVar 3) (tCons (tOpC xDiv (tOpC xSub (tVar 3) (.int 1)) (.int 2)) tNil))))
      (tAsg (tOpC xDiv (tOpC xSub (tVar 3) (.int 1)) (.int 2)) (gName 3))))))
theorem tp_one {v w : V} {H : Hp} {t : Addr} (h : H t = some (.tup [v, w])) : IsTp H (.ref t) [v, w] := ⟨t, rfl, h⟩
theorem pure_Room_put {K : PySem.W.Frag} (T : TxtRoom K) : ∀ vs H Q E, sp_Room_put K vs H Q E → t_Room_put K E { nx := fun _ H' => Q .non H', rt := Q } (start N_Room_put vs) H := by
  intro vs H Q E h
  match vs, h with
  | [s, rv, pv], h =>
    obtain ⟨p, lo, lc, o, cs, ks, r, pr, rfl, rfl, R, hpr, hcol, hrow, hrows, hheap, hlen, k⟩ := h
    obtain ⟨vs, hl, hcs⟩ := R.cells
    have hvl := hcs.length
    refine ⟨_, rfl, g_Room_cells T R.ob ⟨.inl ⟨rfl, _, SqL.of hl⟩, _, rfl, _, rfl, szle (by show 2 ≤ 100000; decide), fun t ht => ?_⟩⟩
    have s1 := Rs.Same.new (o := .tup [.int r, pv]) ht
    have hl1 := s1 _ _ hl
    refine ⟨_, _, _, rfl, rfl, hl1, szlt (by omega), ?_⟩
    have kk : But [lc] H (upd (upd H t (.tup [.int r, pv])) lc (.lst (vs ++ [.ref t]))) := ((But.refl _ H).new ht).put (by simp)
    have tt := But.tupL hl kk
    have ntl := ne_of_none hl ht
    have hc2 : Lst CellAt (upd (upd H t (.tup [.int r, pv])) lc (.lst (vs ++ [.ref t]))) lc (cs ++ [(r, pr)]) := ⟨_, upd_same, P2.app (Paired.tl CellAt.st tt hcs) (P2.one ⟨pv, tp_one (by rw [upd_ne ntl.symm]; exact upd_same), PairAt.st _ _ _ _ tt hpr⟩)⟩
    have R2 := R.other kk hc2
    obtain ⟨vs2, hl2, hcs2⟩ := hc2
    have hvl2 := hcs2.length
    rw [List.length_append, List.length_singleton] at hvl2
    refine ⟨_, rfl, g_Room_cells T R2.ob (lenL hl2 rfl ⟨_, _, rfl, rfl, ?_⟩)⟩
    have e1 : ((vs2.length : Int) - 1) = ((cs.length : Nat) : Int) := by omega
    dsimp only
    rw [e1]
    refine ⟨fun m σ H' => ∃ (a : Nat) (cs' : List Cell), m = a ∧ σ = [some (.ref p), some (.int r), some pv, some (.int (a : Int))] ∧ RoomS K H' p lo lc o cs' ∧ HeapUp (cless o) c0 cs' a ∧ a < cs'.length ∧ cs'.Perm (cs ++ [(r, pr)]) ∧ But [lc] H H',
      ⟨_, cs.length, _, rfl, rfl, R2, up_start hheap, by simp, .refl _, kk⟩, ?_⟩
    rintro a σ H' ⟨_, cs', rfl, rfl, R', hup, ha, hp', k'⟩
    have okc : ∀ c ∈ cs', isRow ks c.2.2 = true := fun c hc => by
      rcases List.mem_append.mp (hp'.mem_iff.mp hc) with h | h
      · exact hrows c h
      · rw [List.mem_singleton.mp h]; exact hrow
    have fin : IsHeap (cless o) c0 cs' → Q .non H' := fun hh => k cs' H' R' hh (hp'.trans (List.perm_append_comm (l₁ := cs) (l₂ := [(r, pr)]))) k'
    obtain ⟨dx, hob⟩ := R'.ob
    obtain ⟨vs', hl', hcs'⟩ := R'.cells
    refine ⟨_, rfl, _, _, rfl, rfl, _, rfl, ?_⟩
    by_cases h0 : (0 : Int) < (a : Int)
    · rw [decide_eq_true h0]
      have hpar : (a - 1) / 2 < cs'.length := by omega
      have e2 : ((a : Int) - 1) / 2 = (((a - 1) / 2 : Nat) : Int) := by omega
      obtain ⟨va, hva, ra⟩ := P2.get' hcs' (List.getElem?_eq_getElem ha)
      obtain ⟨vp, hvp, rp⟩ := P2.get' hcs' (List.getElem?_eq_getElem hpar)
      refine ⟨_, rfl, p, dx, _, rfl, hob, no_Room_is_less, _, rfl, g_Room_cells T R'.ob ⟨_, rfl, ixL hl' rfl hva ⟨_, rfl, g_Room_cells T R'.ob ⟨_, rfl, _, _, rfl, rfl, _, _, rfl, rfl, div_ok (by decide) (by decide), ixL hl' e2 hvp ?_⟩⟩⟩⟩
      refine ⟨p, lo, _, o, _, _, rfl, R'.ob, R'.ord, ra, rp, cmp_of hcol (okc _ (List.getElem_mem ha)) (okc _ (List.getElem_mem hpar)), _, rfl, ?_⟩
      have g1 : cs'[a] = cs'.getD a c0 := (getD_lt ha).symm
      have g2 : cs'[(a - 1) / 2] = cs'.getD ((a - 1) / 2) c0 := (getD_lt hpar).symm
      rw [g1, g2]
      cases hless : cless o (cs'.getD a c0) (cs'.getD ((a - 1) / 2) c0) with
      | false => exact fin (up_end hup (.inr hless))
      | true =>
        refine ⟨fun σ2 H2 => ∃ (a2 : Nat) (cs2 : List Cell), a2 < a ∧ σ2 = [some (.ref p), some (.int r), some pv, some (.int (a2 : Int))] ∧ RoomS K H2 p lo lc o cs2 ∧ HeapUp (cless o) c0 cs2 a2 ∧ a2 < cs2.length ∧ cs2.Perm (cs ++ [(r, pr)]) ∧ But [lc] H H2, ?_, ?_⟩
        · rintro σ2 H2 ⟨a2, cs2, q1, q2⟩
          exact ⟨a2, q1, a2, cs2, rfl, q2⟩
        · refine ⟨_, rfl, p, dx, _, rfl, hob, no_Room_swap, _, rfl, _, rfl, _, _, rfl, rfl, _, _, rfl, rfl, div_ok (by decide) (by decide), ?_⟩
          refine ⟨p, lo, lc, o, cs', a, (a - 1) / 2, rfl, R', rfl, by dsimp only; rw [e2], ha, hpar, fun H3 R3 k3 => ?_⟩
          refine ⟨_, rfl, _, _, rfl, rfl, _, _, rfl, rfl, div_ok (by decide) (by decide), (a - 1) / 2, _, by omega, by dsimp only; rw [e2] <;> rfl, R3, up_turn (cless_strict hcol) okc hup (by omega) ha hless, by rw [swp_len]; exact hpar, (swp_perm ha hpar).trans hp', k'.trans k3⟩
    · rw [decide_eq_false h0]
      exact fin (up_end hup (.inl (by omega)))
abbrev N_Room_lesser : List Str := ["self", "at", "some", "place"]
abbrev P_Room_lesser : List Str := ["self", "at"]
/-- what lesser tells: the least of the two cells below -/
def LesserIs (o : Ord) (cs : List Cell) (a : Nat) (v : V) : Prop :=
  (v = .non ∧ cs.length ≤ 2 * a + 1) ∨ ∃ b : Nat, v = .int (b : Int) ∧ b < cs.length ∧ 0 < b ∧ (b - 1) / 2 = a ∧ ∀ c, 0 < c → c < cs.length → (c - 1) / 2 = a → cless o (cs.getD c c0) (cs.getD b c0) = false
def sp_Room_lesser (K : PySem.W.Frag) : Sp := fun vs H Q E => match vs with
  | [s, av] => ∃ p lo lc o cs ks a, s = .ref p ∧ av = .int ((a : Nat) : Int) ∧ RoomS K H p lo lc o cs ∧ (∀ t ∈ o, t.1 < ks.length) ∧ (∀ c ∈ cs, isRow ks c.2.2 = true) ∧ cs.length ≤ 1000 ∧
    ∀ v H', LesserIs o cs a v → Same H H' → Q v H'
  | _ => False
def t_Room_lesser (K : PySem.W.Frag) (E : XK) : TS := (tSeq (tAsg (tLc (iTup K (tTup (tCons (tOpC xAdd (tOpD xMul (.int 2) (tVar 1)) (.int 1)) (tCons (tOpC xAdd (tOpD xMul (.int 2) (tVar 1)) (.int 2)) tNil)))) (gName 3) (tTest (tOp xLt (tVar 3) (tCB1 (xLen K) (tFl K (tVar 0) "cells")))) (tVar 3) [3]) (gName 2))
  (tSeq (tIfS (tAnd (tTest (tOpC rEq (tCB1 (xLen K) (tVar 2)) (.int 2))) (tB (tMeth (He.ga K "Room") "is_less" (sp_Room_is_less K) [] E (tVar 0) (tCons (tOp (rIxL K) (tFl K (tVar 0) "cells") (tOpC (rIxL K) (tVar 2) (.int 1))) (tCons (tOp (rIxL K) (tFl K (tVar 0) "cells") (tOpC (rIxL K) (tVar 2) (.int 0))) tNil))))) (tRet (tOpC (rIxL K) (tVar 2) (.int 1))) tNext)
   (tRet (tIf (tTest (tOp (xNeE K) (tVar 2) (tLst tNil))) (tOpC (rIxL K) (tVar 2) (.int 0)) (tC .non)))))
theorem pure_Room_lesser {K : PySem.W.Frag} (T : TxtRoom K) : ∀ vs H Q E, sp_Room_lesser K vs H Q E → t_Room_lesser K E { nx := fun _ H' => Q .non H', rt := Q } (start N_Room_lesser vs) H := by
  intro vs H Q E h
  match vs, h with
  | [s, av], h =>
    obtain ⟨p, lo, lc, o, cs, ks, a, rfl, rfl, R, hcol, hrows, hlen, k⟩ := h
    obtain ⟨vs, hl, hcs⟩ := R.cells
    have hvl := hcs.length
    obtain ⟨dx, hob⟩ := R.ob
    refine ⟨_, rfl, _, _, rfl, rfl, .inl ⟨by decide, by decide⟩, _, _, rfl, rfl, _, rfl, _, _, rfl, rfl, .inl ⟨by decide, by decide⟩, _, _, rfl, rfl, szle (by show 2 ≤ 100000; decide), fun t ht => ⟨t, rfl, ⟨_, SqT.of upd_same⟩, fun D hD => ?_⟩⟩
    dsimp only
    have s1 := Rs.Same.new (o := .tup [.int (2 * (a : Int) + 1), .int (2 * (a : Int) + 2)]) ht
    have st1 : upd H t (.tup [.int (2 * (a : Int) + 1), .int (2 * (a : Int) + 2)]) t = some (.tup [.int (2 * (a : Int) + 1), .int (2 * (a : Int) + 2)]) := upd_same
    have sD := Rs.Same.new (o := .lst []) hD
    refine lc_tup (K := K) (a := t) (xs := [.int (2 * (a : Int) + 1), .int (2 * (a : Int) + 2)]) (fun j H2 => H2 D = some (.lst ((([2 * a + 1, 2 * a + 2].take j).filter fun n => decide (n < cs.length)).map fun (n : Nat) => V.int (n : Int))) ∧ Same (upd H t (.tup [.int (2 * (a : Int) + 1), .int (2 * (a : Int) + 2)])) H2)
      ⟨upd_same, sD⟩ ?_ ?_ ?_
    · rintro j H2 _ ⟨_, s⟩
      exact SqT.of (s _ _ st1)
    · rintro j v H2 hj ⟨hd, s⟩
      have hj2 : j < 2 := (List.getElem?_eq_some_iff.mp hj).1
      obtain ⟨n, en, hn⟩ : ∃ n : Nat, v = .int (n : Int) ∧ [2 * a + 1, 2 * a + 2][j]? = some n := by
        rcases (by omega : j = 0 ∨ j = 1) with rfl | rfl
        · exact ⟨2 * a + 1, by simp at hj; rw [← hj]; congr 1, rfl⟩
        · exact ⟨2 * a + 2, by simp at hj; rw [← hj]; congr 1, rfl⟩
      subst en
      refine ⟨rfl, _, rfl, _, rfl, g_Room_cells T (R.ob.same (s1.trans s)) (lenL ((s1.trans s) _ _ hl) rfl ⟨_, _, rfl, rfl, _, rfl, ?_⟩)⟩
      have lf : ((([2 * a + 1, 2 * a + 2].take j).filter fun n => decide (n < cs.length)).map fun (n : Nat) => V.int (n : Int)).length ≤ 2 := by
        rw [List.length_map]
        have := List.length_filter_le (fun n => decide (n < cs.length)) ([2 * a + 1, 2 * a + 2].take j)
        rw [List.length_take] at this
        simp at this
        omega
      by_cases hlt : (n : Int) < (vs.length : Int)
      · rw [decide_eq_true hlt]
        refine ⟨_, rfl, _, hd, szlt (by omega), ?_, Rs.Same.mut s hD⟩
        have ef : ([n].filter fun n => decide (n < cs.length)) = [n] := by rw [List.filter_cons, decide_eq_true (by omega)] <;> rfl
        rw [upd_same, List.take_succ, hn, List.filter_append]
        show some (HO.lst _) = some (HO.lst (List.map _ (_ ++ ([n].filter fun n => decide (n < cs.length)))))
        rw [ef, List.map_append] <;> rfl
      · rw [decide_eq_false hlt]
        have ef : ([n].filter fun n => decide (n < cs.length)) = [] := by rw [List.filter_cons, decide_eq_false (by omega)] <;> rfl
        refine ⟨?_, s⟩
        rw [hd, List.take_succ, hn, List.filter_append]
        show _ = some (HO.lst (List.map _ (_ ++ ([n].filter fun n => decide (n < cs.length)))))
        rw [ef, List.append_nil]
    · rintro H2 ⟨hd, s⟩
      have s2 : Same H H2 := s1.trans s
      have hl2 := s2 _ _ hl
      have R2 := R.same s2
      have hob2 := s2 _ _ hob
      rw [show [V.int (2 * (a : Int) + 1), V.int (2 * (a : Int) + 2)].length = 2 from rfl] at hd
      have kids : ∀ c, 0 < c → (c - 1) / 2 = a → c = 2 * a + 1 ∨ c = 2 * a + 2 := fun c _ _ => by omega
      refine ⟨_, rfl, lenL hd rfl ⟨rfl, _, rfl, ?_⟩⟩
      have S := cless_strict (ks := ks) hcol
      have last : ∀ (b : Nat) (H3 : Hp), Same H H3 → H3 D = some (.lst [.int (b : Int)]) ∨ (∃ w, H3 D = some (.lst [.int (b : Int), w])) → b < cs.length → 0 < b → (b - 1) / 2 = a → (∀ c, 0 < c → c < cs.length → (c - 1) / 2 = a → cless o (cs.getD c c0) (cs.getD b c0) = false) →
          (tRet (tIf (tTest (tOp (xNeE K) (tVar 2) (tLst tNil))) (tOpC (rIxL K) (tVar 2) (.int 0)) (tC .non))) { nx := fun _ H' => Q .non H', rt := Q } [some (.ref p), some (.int (a : Int)), some (.ref D), none] H3 := fun b H3 s3 hd3 hb hb0 hba hmin => by
        obtain ⟨xs, hx, hx0⟩ : ∃ xs, H3 D = some (.lst xs) ∧ xs[0]? = some (.int (b : Int)) := by
          rcases hd3 with h | ⟨w, h⟩
          · exact ⟨_, h, rfl⟩
          · exact ⟨_, h, rfl⟩
        refine ⟨_, rfl, sz0, fun q hq => neE hx hq (b := true) ?_ ⟨_, rfl, _, rfl, ixL (un hx hq) (j := 0) rfl hx0 (k _ _ (.inr ⟨b, rfl, hb, hb0, hba, hmin⟩) (s3.trans (Rs.Same.new hq)))⟩⟩
        cases xs with
        | nil => simp at hx0
        | cons => rfl
      by_cases h1 : 2 * a + 1 < cs.length
      · by_cases h2 : 2 * a + 2 < cs.length
        · have ef : (([2 * a + 1, 2 * a + 2].take 2).filter fun n => decide (n < cs.length)) = [2 * a + 1, 2 * a + 2] := by
            show ([2 * a + 1, 2 * a + 2].filter fun n => decide (n < cs.length)) = _
            rw [List.filter_cons, List.filter_cons, decide_eq_true h1, decide_eq_true h2] <;> rfl
          rw [ef] at hd ⊢
          have e2 : decide (V.int ((([2 * a + 1, 2 * a + 2].map fun (n : Nat) => V.int (n : Int)).length : Nat) : Int) = V.int 2) = true := decide_eq_true rfl
          rw [e2]
          obtain ⟨v1, hv1, r1⟩ := P2.get' hcs (List.getElem?_eq_getElem h1)
          obtain ⟨v2, hv2, r2⟩ := P2.get' hcs (List.getElem?_eq_getElem h2)
          have tH := TupLe.same s2
          refine ⟨_, rfl, p, dx, _, rfl, hob2, no_Room_is_less, _, rfl, g_Room_cells T R2.ob ⟨_, rfl, ixL hd (j := 1) rfl rfl (ixL hl2 rfl hv2 ⟨_, rfl, g_Room_cells T R2.ob ⟨_, rfl, ixL hd (j := 0) rfl rfl (ixL hl2 rfl hv1 ?_)⟩⟩)⟩⟩
          refine ⟨p, lo, _, o, _, _, rfl, R2.ob, R2.ord, CellAt.st _ _ _ _ tH r2, CellAt.st _ _ _ _ tH r1, cmp_of hcol (hrows _ (List.getElem_mem h2)) (hrows _ (List.getElem_mem h1)), _, rfl, ?_⟩
          have g1 : cs[2 * a + 1] = cs.getD (2 * a + 1) c0 := (getD_lt h1).symm
          have g2 : cs[2 * a + 2] = cs.getD (2 * a + 2) c0 := (getD_lt h2).symm
          rw [g1, g2]
          cases hless : cless o (cs.getD (2 * a + 2) c0) (cs.getD (2 * a + 1) c0) with
          | true =>
            refine ⟨_, rfl, ixL hd (j := 1) rfl rfl (k _ _ (.inr ⟨2 * a + 2, rfl, h2, by omega, by omega, fun c c1 c2 c3 => ?_⟩) s2)⟩
            rcases kids c c1 c3 with rfl | rfl
            · exact S.asym _ _ (hrows _ (getD_mem h2)) (hrows _ (getD_mem h1)) hless
            · exact cless_irrefl o _
          | false =>
            refine last (2 * a + 1) H2 s2 (.inr ⟨_, hd⟩) h1 (by omega) (by omega) fun c c1 c2 c3 => ?_
            rcases kids c c1 c3 with rfl | rfl
            · exact cless_irrefl o _
            · exact hless
        · have ef : (([2 * a + 1, 2 * a + 2].take 2).filter fun n => decide (n < cs.length)) = [2 * a + 1] := by
            show ([2 * a + 1, 2 * a + 2].filter fun n => decide (n < cs.length)) = _
            rw [List.filter_cons, List.filter_cons, decide_eq_true h1, decide_eq_false h2] <;> rfl
          rw [ef] at hd ⊢
          have e2 : decide (V.int ((([2 * a + 1].map fun (n : Nat) => V.int (n : Int)).length : Nat) : Int) = V.int 2) = false := decide_eq_false (by intro z; injection z with z; exact absurd z (by show ¬ ((1 : Nat) : Int) = 2; decide))
          rw [e2]
          refine last (2 * a + 1) H2 s2 (.inl hd) h1 (by omega) (by omega) fun c c1 c2 c3 => ?_
          rcases kids c c1 c3 with rfl | rfl
          · exact cless_irrefl o _
          · omega
      · have ef : (([2 * a + 1, 2 * a + 2].take 2).filter fun n => decide (n < cs.length)) = [] := by
          show ([2 * a + 1, 2 * a + 2].filter fun n => decide (n < cs.length)) = _
          rw [List.filter_cons, List.filter_cons, decide_eq_false h1, decide_eq_false (by omega)] <;> rfl
        rw [ef] at hd ⊢
        have e2 : decide (V.int (((([] : List Nat).map fun (n : Nat) => V.int (n : Int)).length : Nat) : Int) = V.int 2) = false := by decide
        rw [e2]
        exact ⟨_, rfl, sz0, fun q hq => neE hd hq (b := false) rfl ⟨_, rfl, k _ _ (.inl ⟨rfl, by omega⟩) (s2.trans (Rs.Same.new hq))⟩⟩
abbrev N_Room_take : List Str := ["self", "found", "at", "below"]
abbrev P_Room_take : List Str := ["self"]
def sp_Room_take (K : PySem.W.Frag) : Sp := fun vs H Q E => match vs with
  | [s] => ∃ p lo lc o cs ks, s = .ref p ∧ RoomS K H p lo lc o cs ∧ (∀ t ∈ o, t.1 < ks.length) ∧ (∀ c ∈ cs, isRow ks c.2.2 = true) ∧ IsHeap (cless o) c0 cs ∧ 0 < cs.length ∧ cs.length ≤ 1000 ∧
    ∀ cs' v H', RoomS K H' p lo lc o cs' → IsHeap (cless o) c0 cs' → (cs.getD 0 c0 :: cs').Perm cs → CellAt H' v (cs.getD 0 c0) → But [lc] H H' → Q v H'
  | _ => False
def t_Room_take (K : PySem.W.Frag) (E : XK) : TS := (tSeq (tDrop (tMeth (He.ga K "Room") "swap" (sp_Room_swap K) [] E (tVar 0) (tConsC (.int 0) (tCons (tOpC xSub (tCB1 (xLen K) (tFl K (tVar 0) "cells")) (.int 1)) tNil))))
  (tSeq (tAsg (tBM0 K "list" rPop (tFl K (tVar 0) "cells")) (gName 1))
   (tSeq (tAsg (tC (.int 0)) (gName 2))
    (tSeq (tAsg (tMeth (He.ga K "Room") "lesser" (sp_Room_lesser K) [] E (tVar 0) (tCons (tVar 2) tNil)) (gName 3))
     (tSeq (tWhile (tAnd (tTest (tOpC rNotN (tVar 3) .non)) (tB (tMeth (He.ga K "Room") "is_less" (sp_Room_is_less K) [] E (tVar 0) (tCons (tOp (rIxL K) (tFl K (tVar 0) "cells") (tVar 3)) (tCons (tOp (rIxL K) (tFl K (tVar 0) "cells") (tVar 2)) tNil))))) 
        (tSeq (tDrop (tMeth (He.ga K "Room") "swap" (sp_Room_swap K) [] E (tVar 0) (tCons (tVar 2) (tCons (tVar 3) tNil))))
        (tSeq (tAsg (tVar 3) (gName 2))
         (tAsg (tMeth (He.ga K "Room") "lesser" (sp_Room_lesser K) [] E (tVar 0) (tCons (tVar 2) tNil)) (gName 3)))))
      (tRet (tVar 1)))))))
theorem pure_Room_take {K : PySem.W.Frag} (T : TxtRoom K) : ∀ vs H Q E, sp_Room_take K vs H Q E → t_Room_take K E { nx := fun _ H' => Q .non H', rt := Q } (start N_Room_take vs) H := by
  intro vs H Q E h
  match vs, h with
  | [s], h =>
    obtain ⟨p, lo, lc, o, cs, ks, rfl, R, hcol, hrows, hheap, hpos, hlen, k⟩ := h
    obtain ⟨vs, hl, hcs⟩ := R.cells
    have hvl := hcs.length
    obtain ⟨dx, hob⟩ := R.ob
    have en : ((vs.length : Int) - 1) = ((cs.length - 1 : Nat) : Int) := by omega
    refine ⟨_, rfl, p, dx, _, rfl, hob, no_Room_swap, _, rfl, g_Room_cells T R.ob (lenL hl rfl ⟨_, _, rfl, rfl, ?_⟩)⟩
    refine ⟨p, lo, lc, o, cs, 0, cs.length - 1, rfl, R, rfl, by dsimp only; rw [en], hpos, by omega, fun H1 R1 k1 => ?_⟩
    obtain ⟨vs1, hl1, hcs1⟩ := R1.cells
    have hvl1 := hcs1.length
    rw [swp_len] at hvl1
    have hlast : (swp c0 cs 0 (cs.length - 1))[cs.length - 1]? = some (cs.getD 0 c0) := by
      unfold swp
      rw [List.getElem?_set_self (by rw [List.length_set]; omega)]
    obtain ⟨v, hv, rv⟩ := P2.get' hcs1 hlast
    refine ⟨_, rfl, g_Room_cells T R1.ob ⟨.inl ⟨rfl, _, SqL.of hl1⟩, _, _, v, rfl, rfl, hl1, by rw [hvl1]; exact hv, ?_⟩⟩
    have k2 : But [lc] H1 (upd H1 lc (.lst vs1.dropLast)) := (But.refl _ H1).put (by simp)
    have dl : ∀ {α β : Type} {F : α → β → Prop} {l : List α} {m : List β}, Paired F l m → Paired F l.dropLast m.dropLast := fun h => by
      rw [List.dropLast_eq_take, List.dropLast_eq_take, ← h.length]
      exact P2.take _ h
    have t2 := But.tupL hl1 k2
    have R2 := R1.other k2 (cs' := (swp c0 cs 0 (cs.length - 1)).dropLast) ⟨_, upd_same, Paired.tl CellAt.st t2 (dl hcs1)⟩
    have rv2 := CellAt.st _ _ _ _ t2 rv
    -- what is left, and what goes
    have hperm : (cs.getD 0 c0 :: (swp c0 cs 0 (cs.length - 1)).dropLast).Perm cs := by
      have hne : swp c0 cs 0 (cs.length - 1) ≠ [] := by intro z; have := congrArg List.length z; rw [swp_len, List.length_nil] at this; omega
      have e1 := List.dropLast_concat_getLast hne
      have e2 : (swp c0 cs 0 (cs.length - 1)).getLast hne = cs.getD 0 c0 := by
        rw [List.getLast_eq_getElem]
        have := hlast
        rw [List.getElem?_eq_getElem (by rw [swp_len]; omega)] at this
        have z := Option.some.inj this
        rw [← z]
        congr 1
        rw [swp_len]
      rw [e2] at e1
      refine List.Perm.trans ?_ (swp_perm (d := c0) hpos (by omega : cs.length - 1 < cs.length))
      rw [← e1]
      refine List.Perm.trans (List.Perm.of_eq ?_) (List.perm_append_comm (l₁ := [cs.getD 0 c0]) (l₂ := (swp c0 cs 0 (cs.length - 1)).dropLast))
      rw [e1]
      rfl
    have hok : ∀ cs' : List Cell, cs'.Perm (swp c0 cs 0 (cs.length - 1)).dropLast → ∀ c ∈ cs', isRow ks c.2.2 = true := fun cs' pm c hc => hrows c (hperm.mem_iff.mp (List.mem_cons_of_mem _ (pm.mem_iff.mp hc)))
    have hl3 : (swp c0 cs 0 (cs.length - 1)).dropLast.length = cs.length - 1 := by rw [List.length_dropLast, swp_len]
    obtain ⟨dx2, hob2⟩ := R2.ob
    refine ⟨_, rfl, p, dx2, _, rfl, hob2, no_Room_lesser, _, rfl, p, lo, lc, o, _, ks, 0, rfl, rfl, R2, hcol, hok _ (.refl _), by rw [hl3]; omega, fun below H3 hlow s3 => ?_⟩
    refine ⟨fun m σ H' => ∃ (a : Nat) (below : V) (cs' : List Cell), m = cs.length - a ∧ σ = [some (.ref p), some v, some (.int (a : Int)), some below] ∧ RoomS K H' p lo lc o cs' ∧ HeapDown (cless o) c0 cs' a ∧ LesserIs o cs' a below ∧ cs'.Perm (swp c0 cs 0 (cs.length - 1)).dropLast ∧ But [lc] H H' ∧ CellAt H' v (cs.getD 0 c0) ∧ (a < cs'.length ∨ a = 0),
      ⟨_, 0, below, _, rfl, rfl, R2.same s3, down_start hheap hpos, hlow, .refl _, (k1.trans k2).trans (But.same s3), CellAt.st _ _ _ _ (TupLe.same s3) rv2, .inr rfl⟩, ?_⟩
    rintro m σ H' ⟨a, below, cs', rfl, rfl, R', hdown, hlow, hpm, k', rv', ha⟩
    have S := cless_strict (ks := ks) hcol
    have okc := hok cs' hpm
    have hl' := hpm.length_eq
    rw [hl3] at hl'
    have fin : IsHeap (cless o) c0 cs' → (tRet (tVar 1)) { nx := fun _ H' => Q .non H', rt := Q } [some (.ref p), some v, some (.int (a : Int)), some below] H' := fun hh => ⟨_, rfl, k cs' v H' R' hh ((hpm.cons _).trans hperm) rv' k'⟩
    refine ⟨_, rfl, rfl, _, rfl, ?_⟩
    rcases hlow with ⟨rfl, hnone⟩ | ⟨b, rfl, hb, hb0, hba, hmin⟩
    · have e1 : (!decide (V.non = V.non)) = false := rfl
      rw [e1]
      exact fin (down_end S okc hdown fun c c1 c2 c3 => by omega)
    · have e1 : (!decide (V.int (b : Int) = V.non)) = true := rfl
      rw [e1]
      have hal : a < cs'.length := by omega
      obtain ⟨dx', hob'⟩ := R'.ob
      obtain ⟨vs', hl', hcs'⟩ := R'.cells
      obtain ⟨vb, hvb, rb⟩ := P2.get' hcs' (List.getElem?_eq_getElem hb)
      obtain ⟨va, hva, ra⟩ := P2.get' hcs' (List.getElem?_eq_getElem hal)
      refine ⟨_, rfl, p, dx', _, rfl, hob', no_Room_is_less, _, rfl, g_Room_cells T R'.ob ⟨_, rfl, ixL hl' rfl hvb ⟨_, rfl, g_Room_cells T R'.ob ⟨_, rfl, ixL hl' rfl hva ?_⟩⟩⟩⟩
      refine ⟨p, lo, _, o, _, _, rfl, R'.ob, R'.ord, rb, ra, cmp_of hcol (okc _ (List.getElem_mem hb)) (okc _ (List.getElem_mem hal)), _, rfl, ?_⟩
      have g1 : cs'[b] = cs'.getD b c0 := (getD_lt hb).symm
      have g2 : cs'[a] = cs'.getD a c0 := (getD_lt hal).symm
      rw [g1, g2]
      cases hless : cless o (cs'.getD b c0) (cs'.getD a c0) with
      | false => exact fin (down_end S okc hdown fun c c1 c2 c3 => ⟨b, hb, hmin c c1 c2 c3, hless⟩)
      | true =>
        refine ⟨fun σ2 H2 => ∃ (a2 : Nat) (below2 : V) (cs2 : List Cell), cs.length - a2 < cs.length - a ∧ σ2 = [some (.ref p), some v, some (.int (a2 : Int)), some below2] ∧ RoomS K H2 p lo lc o cs2 ∧ HeapDown (cless o) c0 cs2 a2 ∧ LesserIs o cs2 a2 below2 ∧ cs2.Perm (swp c0 cs 0 (cs.length - 1)).dropLast ∧ But [lc] H H2 ∧ CellAt H2 v (cs.getD 0 c0) ∧ (a2 < cs2.length ∨ a2 = 0), ?_, ?_⟩
        · rintro σ2 H2 ⟨a2, below2, cs2, q1, q2⟩
          exact ⟨_, q1, a2, below2, cs2, rfl, q2⟩
        · refine ⟨_, rfl, p, dx', _, rfl, hob', no_Room_swap, _, rfl, _, rfl, p, lo, lc, o, cs', a, b, rfl, R', rfl, rfl, hal, hb, fun H4 R4 k4 => ?_⟩
          obtain ⟨dx4, hob4⟩ := R4.ob
          have pm4 : (swp c0 cs' a b).Perm (swp c0 cs 0 (cs.length - 1)).dropLast := (swp_perm hal hb).trans hpm
          refine ⟨_, rfl, _, rfl, p, dx4, _, rfl, hob4, no_Room_lesser, _, rfl, p, lo, lc, o, _, ks, b, rfl, rfl, R4, hcol, hok _ pm4, by rw [swp_len]; omega, fun below2 H5 hlow2 s5 => ?_⟩
          refine ⟨b, below2, _, by omega, rfl, R4.same s5, down_turn S okc hdown hb0 hb hba hmin hless, hlow2, pm4, (k'.trans k4).trans (But.same s5), CellAt.st _ _ _ _ ((But.tupL hl' k4).trans (TupLe.same s5)) rv', .inl (by rw [swp_len]; exact hb)⟩
end Rs

namespace Rs
open PySem PySem.Spec PyProof.Rows L2
/-! ### a maker of runs as it stands -/
def OptAt : Rel (Option Pr) := fun H v q => match q with
  | none => v = .non
  | some p => PairAt H v p
theorem OptAt.st : Stable OptAt := fun H H' v q t h => match q, h with
  | none, h => h
  | some p, h => PairAt.st H H' v p t h
structure MakerS (K : PySem.W.Frag) (H : Hp) (p lo pr lc : Addr) (o : Ord) (size : Int) (cs : List Cell) (run : Int) (last : Option Pr) : Prop where
  ob : ∃ vl, MakerOb K H p (.ref lo) (.int size) (.ref pr) (.int run) vl ∧ OptAt H vl last
  room : RoomS K H pr lo lc o cs
  ne : p ≠ pr
theorem MakerOb.keep {K : PySem.W.Frag} {H H' : Hp} {p : Addr} {x0 x1 x2 x3 x4 : V} (h : MakerOb K H p x0 x1 x2 x3 x4) (k : ∀ o, H p = some o → H' p = some o) : MakerOb K H' p x0 x1 x2 x3 x4 := let ⟨dx, e⟩ := h; ⟨dx, k _ e⟩
theorem MakerS.same {K : PySem.W.Frag} {H H' : Hp} {p lo pr lc : Addr} {o : Ord} {size : Int} {cs : List Cell} {run : Int} {last : Option Pr} (h : MakerS K H p lo pr lc o size cs run last) (s : Same H H') : MakerS K H' p lo pr lc o size cs run last := by
  obtain ⟨vl, ob, hl⟩ := h.ob
  exact ⟨⟨vl, ob.keep fun u => s p u, OptAt.st _ _ _ _ (TupLe.same s) hl⟩, h.room.same s, h.ne⟩
theorem MakerS.plc {K : PySem.W.Frag} {H : Hp} {p lo pr lc : Addr} {o : Ord} {size : Int} {cs : List Cell} {run : Int} {last : Option Pr} (h : MakerS K H p lo pr lc o size cs run last) : p ≠ lc ∧ p ≠ lo := by
  obtain ⟨vl, ⟨dx, e⟩, _⟩ := h.ob
  obtain ⟨vs, e2, _⟩ := h.room.cells
  obtain ⟨os, e3, _⟩ := h.room.ord
  exact ⟨ne_of e e2 (by intro z; cases z), ne_of e e3 (by intro z; cases z)⟩
theorem MakerS.tup {K : PySem.W.Frag} {H H' : Hp} {p lo pr lc : Addr} {o : Ord} {size : Int} {cs : List Cell} {run : Int} {last : Option Pr} (h : MakerS K H p lo pr lc o size cs run last) (k : But [p, lc] H H') : TupLe H H' := fun c xs e => by
  obtain ⟨vl, ⟨dx, e1⟩, _⟩ := h.ob
  obtain ⟨vs, e2, _⟩ := h.room.cells
  exact k c _ e (nn (ne_of e e1 (by intro z; cases z)) (ne_of e e2 (by intro z; cases z)))
/-- the room has changed -/
theorem MakerS.roomed {K : PySem.W.Frag} {H H' : Hp} {p lo pr lc : Addr} {o : Ord} {size : Int} {cs cs' : List Cell} {run : Int} {last : Option Pr} (h : MakerS K H p lo pr lc o size cs run last) (k : But [lc] H H') (R : RoomS K H' pr lo lc o cs') : MakerS K H' p lo pr lc o size cs' run last := by
  obtain ⟨vl, ob, hl⟩ := h.ob
  exact ⟨⟨vl, ob.keep fun u e => k _ _ e (ne1 h.plc.1), OptAt.st _ _ _ _ (h.tup (k.wide fun x hx => by rw [List.mem_singleton] at hx; subst hx; simp)) hl⟩, R, h.ne⟩
/-- the maker's object has changed -/
theorem MakerS.obbed {K : PySem.W.Frag} {H : Hp} {p lo pr lc : Addr} {o : Ord} {size : Int} {cs : List Cell} {run run' : Int} {last last' : Option Pr} {dx : Addr} {vl : V} (h : MakerS K H p lo pr lc o size cs run last) (hv : OptAt H vl last') :
    MakerS K (upd H p (.ins (He.ga K "Maker") dx (f_Maker (.ref lo) (.int size) (.ref pr) (.int run') vl))) p lo pr lc o size cs run' last' := by
  have kk : But [p] H (upd H p (.ins (He.ga K "Maker") dx (f_Maker (.ref lo) (.int size) (.ref pr) (.int run') vl))) := (But.refl _ H).put (by simp)
  have t := h.tup (kk.wide fun x hx => by rw [List.mem_singleton] at hx; subst hx; simp)
  exact ⟨⟨vl, ⟨dx, upd_same⟩, OptAt.st _ _ _ _ t hv⟩, ⟨h.room.ob.keep fun u e => up e (Ne.symm h.ne), h.room.ord.keep TurnAt.st t fun u e => up e h.plc.2.symm, h.room.cells.keep CellAt.st t fun u e => up e h.plc.1.symm, h.room.ne⟩, h.ne⟩
abbrev N_Maker___init__ : List Str := ["self", "order", "size"]
abbrev P_Maker___init__ : List Str := ["self", "order", "size"]
def sp_Maker___init__ (K : PySem.W.Frag) : Sp := fun vs H Q E => match vs with
  | [s, ov, sz] => ∃ p dx lo o size, s = .ref p ∧ ov = .ref lo ∧ sz = .int size ∧ H p = some (.ins (He.ga K "Maker") dx []) ∧ Lst TurnAt H lo o ∧ ∀ pr lc H', MakerS K H' p lo pr lc o size [] 0 none → H pr = none → H lc = none → But [p] H H' → Q .non H'
  | _ => False
def t_Maker___init__ (K : PySem.W.Frag) (E : XK) : TS := (tSeq (sFl K (tVar 0) (tVar 1) "order")
  (tSeq (sFl K (tVar 0) (tVar 2) "size")
   (tSeq (sFl K (tVar 0) (tMake (He.ga K "Room") (sp_Room___init__ K) [] E (tCons (tVar 1) tNil)) "room")
    (tSeq (sFl K (tVar 0) (tC (.int 0)) "run")
     (sFl K (tVar 0) (tC .non) "last")))))
theorem pure_Maker___init__ {K : PySem.W.Frag} (T : TxtMaker K) : ∀ vs H Q E, sp_Maker___init__ K vs H Q E → t_Maker___init__ K E { nx := fun _ H' => Q .non H', rt := Q } (start N_Maker___init__ vs) H := by
  intro vs H Q E h
  match vs, h with
  | [s, ov, sz], h =>
    obtain ⟨p, dx, lo, o, size, rfl, rfl, rfl, hp, ho, k⟩ := h
    have npo : lo ≠ p := by
      obtain ⟨tv, e, _⟩ := ho
      exact ne_of e hp (by intro z; cases z)
    refine ⟨_, rfl, _, rfl, p, _, dx, _, rfl, hp, T.cl, T.n_order, by show 0 < 1000; decide, ?_⟩
    rw [put_nil]
    refine ⟨_, rfl, _, rfl, p, _, dx, _, rfl, upd_same, T.cl, T.n_size, by show 1 < 1000; decide, ?_⟩
    rw [put_tl (by decide +kernel), put_nil]
    have k1 : But [p] H (upd (upd H p (.ins (He.ga K "Maker") dx [(("order" : Str), .ref lo)])) p (.ins (He.ga K "Maker") dx [(("order" : Str), .ref lo), (("size" : Str), .int size)])) := ((But.refl _ H).put (by simp)).put (by simp)
    generalize hH1 : upd (upd H p (.ins (He.ga K "Maker") dx [(("order" : Str), .ref lo)])) p (.ins (He.ga K "Maker") dx [(("order" : Str), .ref lo), (("size" : Str), .int size)]) = H1 at k1 ⊢
    have hp1 : H1 p = some (.ins (He.ga K "Maker") dx [(("order" : Str), .ref lo), (("size" : Str), .int size)]) := by rw [← hH1]; exact upd_same
    have t1 : TupLe H H1 := fun c xs e => k1 c _ e (ne1 (ne_of e hp (by intro z; cases z)))
    have ho1 : Lst TurnAt H1 lo o := ho.keep TurnAt.st t1 fun u e => k1 _ _ e (ne1 npo)
    refine ⟨_, rfl, fun pr dr hpr hdr ndr => ?_⟩
    have s2 : Same H1 (upd (upd H1 dr (.own pr)) pr (.ins (He.ga K "Room") dr [])) := (Rs.Same.new hdr).trans (Rs.Same.new (by rw [upd_ne ndr.symm]; exact hpr))
    generalize hH2 : upd (upd H1 dr (.own pr)) pr (.ins (He.ga K "Room") dr []) = H2 at s2 ⊢
    have hpr2 : H2 pr = some (.ins (He.ga K "Room") dr []) := by rw [← hH2]; exact upd_same
    refine ⟨pr, dr, lo, o, rfl, rfl, hpr2, ho1.same TurnAt.st s2, fun lc H3 R hlc k3 => ⟨rfl, ?_⟩⟩
    have npr : p ≠ pr := ne_of_none hp1 hpr
    have hp3 : H3 p = some (.ins (He.ga K "Maker") dx [(("order" : Str), .ref lo), (("size" : Str), .int size)]) := k3 _ _ (s2 _ _ hp1) (ne1 npr)
    have plc : p ≠ lc := ne_of_none (s2 _ _ hp1) hlc
    have hpr0 : H pr = none := none_of_but k1 hpr (ne1 npr.symm)
    have hlc1 : H1 lc = none := s2.free hlc
    have hlc0 : H lc = none := none_of_but k1 hlc1 (ne1 plc.symm)
    refine ⟨_, rfl, p, _, dx, _, rfl, hp3, T.cl, T.n_room, by show 2 < 1000; decide, ?_⟩
    rw [put_tl (by decide +kernel), put_tl (by decide +kernel), put_nil]
    refine ⟨_, rfl, p, _, dx, _, rfl, upd_same, T.cl, T.n_run, by show 3 < 1000; decide, ?_⟩
    rw [put_tl (by decide +kernel), put_tl (by decide +kernel), put_tl (by decide +kernel), put_nil]
    refine ⟨_, rfl, p, _, dx, _, rfl, upd_same, T.cl, T.n_last, by show 4 < 1000; decide, ?_⟩
    rw [put_tl (by decide +kernel), put_tl (by decide +kernel), put_tl (by decide +kernel), put_tl (by decide +kernel), put_nil]
    have s13 : Same H1 H3 := k3.fresh s2 (fun x hx => by rw [List.mem_singleton] at hx; rw [hx]; exact hpr)
    have k4 : ∀ u1 u2 u3 : HO, But [p] H3 (upd (upd (upd H3 p u1) p u2) p u3) := fun u1 u2 u3 => (((But.refl _ H3).put (by simp)).put (by simp)).put (by simp)
    have t4 : ∀ u1 u2 u3 : HO, TupLe H3 (upd (upd (upd H3 p u1) p u2) p u3) := fun u1 u2 u3 c xs e => k4 u1 u2 u3 c _ e (ne1 (ne_of e hp3 (by intro z; cases z)))
    refine k pr lc _ ⟨⟨.non, ⟨dx, upd_same⟩, rfl⟩, ⟨R.ob.keep fun u e => k4 _ _ _ _ _ e (ne1 npr.symm), R.ord.keep TurnAt.st (t4 _ _ _) fun u e => k4 _ _ _ _ _ e (ne1 npo), R.cells.keep CellAt.st (t4 _ _ _) fun u e => k4 _ _ _ _ _ e (ne1 plc.symm), R.ne⟩, npr⟩ hpr0 hlc0 ((k1.trans (But.same s13)).trans (k4 _ _ _))
abbrev N_Maker_has_space : List Str := ["self"]
abbrev P_Maker_has_space : List Str := ["self"]
def sp_Maker_has_space (K : PySem.W.Frag) : Sp := fun vs H Q E => match vs with
  | [s] => ∃ p lo pr lc o size cs run last, s = .ref p ∧ MakerS K H p lo pr lc o size cs run last ∧ Q (.bl (decide ((cs.length : Int) < size))) H
  | _ => False
def t_Maker_has_space (K : PySem.W.Frag) (E : XK) : TS := (tRet (tOp xLt (tMeth (He.ga K "Room") "many_in" (sp_Room_many_in K) [] E (tFl K (tVar 0) "room") tNil) (tFl K (tVar 0) "size")))
theorem pure_Maker_has_space {K : PySem.W.Frag} (T : TxtMaker K) : ∀ vs H Q E, sp_Maker_has_space K vs H Q E → t_Maker_has_space K E { nx := fun _ H' => Q .non H', rt := Q } (start N_Maker_has_space vs) H := by
  intro vs H Q E h
  match vs, h with
  | [s], h =>
    obtain ⟨p, lo, pr, lc, o, size, cs, run, last, rfl, M, k⟩ := h
    obtain ⟨vl, ob, _⟩ := M.ob
    obtain ⟨dr, hob⟩ := M.room.ob
    exact ⟨_, rfl, g_Maker_room T ob ⟨pr, dr, _, rfl, hob, no_Room_many_in, pr, lo, lc, o, cs, rfl, M.room, _, rfl, g_Maker_size T ob ⟨_, _, rfl, rfl, k⟩⟩⟩
abbrev N_Maker_come : List Str := ["self", "pair", "late"]
abbrev P_Maker_come : List Str := ["self", "pair"]
def late (o : Ord) (q : Pr) (last : Option Pr) : Bool := match last with
  | none => false
  | some l => before o q l
def lateI (o : Ord) (q : Pr) (last : Option Pr) : Int := if late o q last then 1 else 0
def sp_Maker_come (K : PySem.W.Frag) : Sp := fun vs H Q E => match vs with
  | [s, pv] => ∃ p lo pr lc o size cs run last ks q, s = .ref p ∧ MakerS K H p lo pr lc o size cs run last ∧ PairAt H pv q ∧ (∀ t ∈ o, t.1 < ks.length) ∧ isRow ks q.2 = true ∧ (∀ c ∈ cs, isRow ks c.2.2 = true) ∧ (∀ l, last = some l → isRow ks l.2 = true) ∧ IsHeap (cless o) c0 cs ∧ cs.length ≤ 1000 ∧
    ∀ cs' H', MakerS K H' p lo pr lc o size cs' run last → IsHeap (cless o) c0 cs' → cs'.Perm ((run + lateI o q last, q) :: cs) → But [lc] H H' → Q .non H'
  | _ => False
def t_Maker_come (K : PySem.W.Frag) (E : XK) : TS := (tSeq (tAsg (tAndV (tOpC rNotN (tFl K (tVar 0) "last") .non) (tCall (sp_is_before K) [] E (tCons (tFl K (tVar 0) "order") (tCons (tVar 1) (tCons (tFl K (tVar 0) "last") tNil))))) (gName 2))
  (tDrop (tMeth (He.ga K "Room") "put" (sp_Room_put K) [] E (tFl K (tVar 0) "room") (tCons (tOp xAdd (tFl K (tVar 0) "run") (tCB1 xInt (tVar 2))) (tCons (tVar 1) tNil)))))
theorem pure_Maker_come {K : PySem.W.Frag} (T : TxtMaker K) : ∀ vs H Q E, sp_Maker_come K vs H Q E → t_Maker_come K E { nx := fun _ H' => Q .non H', rt := Q } (start N_Maker_come vs) H := by
  intro vs H Q E h
  match vs, h with
  | [s, pv], h =>
    obtain ⟨p, lo, pr, lc, o, size, cs, run, last, ks, q, rfl, M, hq, hcol, hrow, hrows, hlast, hheap, hlen, k⟩ := h
    obtain ⟨vl, ob, hvl⟩ := M.ob
    obtain ⟨dr, hob⟩ := M.room.ob
    have fin : ∀ b : Bool, b = late o q last → (tDrop (tMeth (He.ga K "Room") "put" (sp_Room_put K) [] E (tFl K (tVar 0) "room") (tCons (tOp xAdd (tFl K (tVar 0) "run") (tCB1 xInt (tVar 2))) (tCons (tVar 1) tNil)))) { nx := fun _ H' => Q .non H', rt := Q } [some (.ref p), some pv, some (.bl b)] H := fun b hb => by
      refine ⟨_, rfl, g_Maker_room T ob ⟨pr, dr, _, rfl, hob, no_Room_put, _, rfl, g_Maker_run T ob ⟨_, rfl, .inr ⟨_, rfl, _, _, rfl, rfl, _, rfl, ?_⟩⟩⟩⟩
      refine ⟨pr, lo, lc, o, cs, ks, _, q, rfl, rfl, M.room, hq, hcol, hrow, hrows, hheap, hlen, fun cs' H' R' hh pm kk => ?_⟩
      refine k cs' H' (M.roomed kk R') hh ?_ kk
      unfold lateI
      rw [← hb]
      exact pm
    cases last with
    | none =>
      have e : vl = .non := hvl
      subst e
      exact ⟨_, rfl, g_Maker_last T ob ⟨rfl, _, rfl, fin false rfl⟩⟩
    | some l =>
      have hvl : PairAt H vl l := hvl
      have en : (!decide (vl = V.non)) = true := by
        obtain ⟨w, ⟨a, rfl, _⟩, _⟩ := hvl
        rfl
      refine ⟨_, rfl, g_Maker_last T ob ⟨rfl, _, rfl, ?_⟩⟩
      rw [en]
      refine ⟨_, rfl, g_Maker_order T ob ⟨_, rfl, _, rfl, g_Maker_last T ob ?_⟩⟩
      exact ⟨o, q, l, ⟨lo, rfl, M.room.ord⟩, hq, hvl, cmp_of hcol hrow (hlast l rfl), fin _ rfl⟩
abbrev N_Maker_goes : List Str := ["self"]
abbrev P_Maker_goes : List Str := ["self"]
def sp_Maker_goes (K : PySem.W.Frag) : Sp := fun vs H Q E => match vs with
  | [s] => ∃ p lo pr lc o size cs run last ks, s = .ref p ∧ MakerS K H p lo pr lc o size cs run last ∧ (∀ t ∈ o, t.1 < ks.length) ∧ (∀ c ∈ cs, isRow ks c.2.2 = true) ∧ IsHeap (cless o) c0 cs ∧ cs.length ≤ 1000 ∧
    ((cs = [] ∨ (cs.getD 0 c0).1 ≠ run) → ∀ H', Same H H' → Q .non H') ∧
    (0 < cs.length → (cs.getD 0 c0).1 = run → ∀ cs' v H', MakerS K H' p lo pr lc o size cs' run (some (cs.getD 0 c0).2) → IsHeap (cless o) c0 cs' → (cs.getD 0 c0 :: cs').Perm cs → PairAt H' v (cs.getD 0 c0).2 → But [p, lc] H H' → Q v H')
  | _ => False
def t_Maker_goes (K : PySem.W.Frag) (E : XK) : TS := (tSeq (tIfS (tTest (tOp rNe (tMeth (He.ga K "Room") "first_run" (sp_Room_first_run K) [] E (tFl K (tVar 0) "room") tNil) (tFl K (tVar 0) "run"))) (tRet (tC .non)) tNext)
  (tSeq (sFl K (tVar 0) (tOpC (rIxT K) (tMeth (He.ga K "Room") "take" (sp_Room_take K) [] E (tFl K (tVar 0) "room") tNil) (.int 1)) "last")
   (tRet (tFl K (tVar 0) "last"))))
theorem pure_Maker_goes {K : PySem.W.Frag} (T : TxtMaker K) : ∀ vs H Q E, sp_Maker_goes K vs H Q E → t_Maker_goes K E { nx := fun _ H' => Q .non H', rt := Q } (start N_Maker_goes vs) H := by
  intro vs H Q E h
  match vs, h with
  | [s], h =>
    obtain ⟨p, lo, pr, lc, o, size, cs, run, last, ks, rfl, M, hcol, hrows, hheap, hlen, k1, k2⟩ := h
    obtain ⟨vl, ob, hvl⟩ := M.ob
    obtain ⟨dr, hob⟩ := M.room.ob
    refine ⟨_, rfl, g_Maker_room T ob ⟨pr, dr, _, rfl, hob, no_Room_first_run, pr, lo, lc, o, cs, rfl, M.room, fun H1 s1 => ?_⟩⟩
    have ob1 := ob.keep fun u => s1 p u
    have M1 := M.same s1
    refine ⟨_, rfl, g_Maker_run T ob1 ?_⟩
    cases hcs : cs with
    | nil => exact ⟨rfl, _, rfl, k1 (.inl hcs) _ s1⟩
    | cons c cr =>
      have g0 : cs.getD 0 c0 = c := by rw [hcs]; rfl
      refine ⟨rfl, _, rfl, ?_⟩
      by_cases he : c.1 = run
      · have e1 : (!decide (V.int c.1 = V.int run)) = false := by rw [he]; simp
        rw [e1]
        have hpos : 0 < cs.length := by rw [hcs]; simp
        obtain ⟨dr1, hob1⟩ := M1.room.ob
        refine ⟨_, rfl, g_Maker_room T ob1 ⟨pr, dr1, _, rfl, hob1, no_Room_take, pr, lo, lc, o, cs, ks, rfl, M1.room, hcol, hrows, hheap, hpos, hlen, fun cs' v H2 R2 hh pm hv kk => ?_⟩⟩
        obtain ⟨w, hvw, hw⟩ := hv
        have M2 := M1.roomed kk R2
        obtain ⟨vl2, ob2, hvl2⟩ := M2.ob
        refine ixT hvw (j := 1) rfl rfl ⟨_, rfl, ?_⟩
        refine s_Maker_last T ob2 fun dx hp => ?_
        have M3 := M2.obbed (dx := dx) (run' := run) (last' := some (cs.getD 0 c0).2) (vl := w) hw
        have ob3 : MakerOb K (upd H2 p (.ins (He.ga K "Maker") dx (f_Maker (.ref lo) (.int size) (.ref pr) (.int run) w))) p (.ref lo) (.int size) (.ref pr) (.int run) w := ⟨dx, upd_same⟩
        refine ⟨_, rfl, g_Maker_last T ob3 ?_⟩
        have kf : But [p, lc] H (upd H2 p (.ins (He.ga K "Maker") dx (f_Maker (.ref lo) (.int size) (.ref pr) (.int run) w))) := ((But.same s1).trans (kk.wide fun x hx => by rw [List.mem_singleton] at hx; rw [hx]; simp)).put (by simp)
        refine k2 hpos (by rw [g0]; exact he) cs' w _ M3 hh pm ?_ kf
        exact PairAt.st _ _ _ _ (M2.tup ((But.refl _ H2).put (by simp))) hw
      · have e1 : (!decide (V.int c.1 = V.int run)) = true := by rw [decide_eq_false fun z => he (by injection z)]; rfl
        rw [e1]
        exact k1 (.inr (by rw [g0]; exact he)) _ s1
abbrev N_Maker_turn : List Str := ["self"]
abbrev P_Maker_turn : List Str := ["self"]
def sp_Maker_turn (K : PySem.W.Frag) : Sp := fun vs H Q E => match vs with
  | [s] => ∃ p lo pr lc o size cs run last, s = .ref p ∧ MakerS K H p lo pr lc o size cs run last ∧ ∀ H', MakerS K H' p lo pr lc o size cs (run + 1) none → But [p] H H' → Q .non H'
  | _ => False
def t_Maker_turn (K : PySem.W.Frag) (E : XK) : TS := (tSeq (sFl K (tVar 0) (tOpC xAdd (tFl K (tVar 0) "run") (.int 1)) "run")
  (sFl K (tVar 0) (tC .non) "last"))
theorem pure_Maker_turn {K : PySem.W.Frag} (T : TxtMaker K) : ∀ vs H Q E, sp_Maker_turn K vs H Q E → t_Maker_turn K E { nx := fun _ H' => Q .non H', rt := Q } (start N_Maker_turn vs) H := by
  intro vs H Q E h
  match vs, h with
  | [s], h =>
    obtain ⟨p, lo, pr, lc, o, size, cs, run, last, rfl, M, k⟩ := h
    obtain ⟨vl, ob, hvl⟩ := M.ob
    refine ⟨_, rfl, g_Maker_run T ob ⟨_, _, rfl, rfl, _, rfl, s_Maker_run T ob fun dx hp => ?_⟩⟩
    have M1 := M.obbed (dx := dx) (run' := run + 1) (last' := last) (vl := vl) hvl
    refine ⟨_, rfl, s_Maker_last T ⟨dx, upd_same⟩ fun dx2 hp2 => ?_⟩
    exact k _ (M1.obbed (last' := none) rfl) (((But.refl _ H).put (by simp)).put (by simp))
end Rs

namespace Rs
open PySem PySem.Spec PyProof.Rows L2
/-! ### put in order; the runs by exchange -/
def srt (o : Ord) : List Pr → List Pr
  | [] => []
  | x :: xs => mrg o [x] (srt o xs)
theorem srt_perm (o : Ord) : ∀ xs, (srt o xs).Perm xs
  | [] => .nil
  | x :: xs => (mrg_perm o (srt o xs) [x]).trans ((srt_perm o xs).cons x)
theorem srt_up {ks : List Str} {o : Ord} (ho : ∀ t ∈ o, t.1 < ks.length) : ∀ xs, Fine ks xs → Up o (srt o xs)
  | [], _ => .nil
  | x :: xs, f => by
    have fx : Fine ks xs := f.sub (List.sublist_cons_self ..)
    refine mrg_up ho (srt o xs) [x] (f.perm ?_) (List.pairwise_singleton _ _) (srt_up ho xs fx)
    exact (srt_perm o xs).cons x
theorem srt_eq {ks : List Str} {o : Ord} (ho : ∀ t ∈ o, t.1 < ks.length) {xs ys : List Pr} (f : Fine ks xs) (p : ys.Perm xs) (u : Up o ys) : ys = srt o xs :=
  up_unique ho (f.perm p) (p.trans (srt_perm o xs).symm) u (srt_up ho xs f)
/-- the least of them -/
def mn (o : Ord) (xs : List Pr) : Pr := (srt o xs).getD 0 c0.2
theorem mn_mem (o : Ord) {xs : List Pr} (h : xs ≠ []) : mn o xs ∈ xs := by
  have p := srt_perm o xs
  unfold mn
  cases e : srt o xs with
  | nil => rw [e] at p; exact absurd p.nil_eq.symm h
  | cons y ys =>
    rw [e] at p
    exact p.mem_iff.mp (List.mem_cons_self ..)
theorem mn_first {ks : List Str} {o : Ord} (ho : ∀ t ∈ o, t.1 < ks.length) {xs : List Pr} (f : Fine ks xs) {x : Pr} (hx : x ∈ xs) (n : x ≠ mn o xs) : before o (mn o xs) x = true := by
  have p := srt_perm o xs
  have u := srt_up ho xs f
  unfold mn at n ⊢
  cases e : srt o xs with
  | nil => rw [e] at p; rw [p.nil_eq.symm] at hx; simp at hx
  | cons y ys =>
    rw [e] at p u n
    rcases List.mem_cons.mp (p.mem_iff.mpr hx) with h | h
    · exact absurd h n
    · exact List.rel_of_pairwise_cons u h
/-- the one that none is ahead of -/
theorem mn_eq {ks : List Str} {o : Ord} (ho : ∀ t ∈ o, t.1 < ks.length) {xs : List Pr} (f : Fine ks xs) {x : Pr} (hx : x ∈ xs) (h : ∀ y ∈ xs, before o y x = false) : x = mn o xs := by
  by_cases n : x = mn o xs
  · exact n
  · have t := mn_first ho f hx n
    rw [h _ (mn_mem o (by intro e; rw [e] at hx; simp at hx))] at t
    cases t
/-- without the one of this number -/
def outN (n : Int) (xs : List Pr) : List Pr := xs.filter fun q => decide (q.1 ≠ n)
theorem outN_none {n : Int} : ∀ {xs : List Pr}, n ∉ xs.map (·.1) → outN n xs = xs
  | [], _ => rfl
  | x :: xs, h => by
    rw [List.map_cons, List.mem_cons] at h
    have ne : x.1 ≠ n := fun e => h (.inl e.symm)
    unfold outN
    rw [List.filter_cons, if_pos (decide_eq_true ne)]
    congr 1
    exact outN_none fun z => h (.inr z)
theorem out_erase : ∀ {xs : List Pr} {j : Nat} {m : Pr}, (xs.map (·.1)).Nodup → xs[j]? = some m → xs.eraseIdx j = outN m.1 xs
  | [], _, _, _, h => by simp at h
  | x :: xs, 0, m, nd, h => by
    have h : x = m := by simpa using h
    subst h
    rw [List.map_cons, List.nodup_cons] at nd
    unfold outN
    rw [List.filter_cons, if_neg (by simp)]
    exact (outN_none nd.1).symm
  | x :: xs, j + 1, m, nd, h => by
    have h : xs[j]? = some m := by simpa using h
    rw [List.map_cons, List.nodup_cons] at nd
    have ih := out_erase nd.2 h
    have ne : x.1 ≠ m.1 := fun e => nd.1 (by rw [e]; exact List.mem_map_of_mem (List.mem_of_getElem? h))
    unfold outN
    rw [List.filter_cons, if_pos (decide_eq_true ne), List.eraseIdx_cons_succ, ih]
    rfl
theorem out_perm {xs : List Pr} {m : Pr} (nd : (xs.map (·.1)).Nodup) (h : m ∈ xs) : xs.Perm (m :: outN m.1 xs) := by
  obtain ⟨j, hj⟩ := List.mem_iff_getElem?.mp h
  rw [← out_erase nd hj]
  exact take_append_erase hj
/-- those that come in while there is room -/
def fillL (o : Ord) (size : Int) (last : Option Pr) : List Pr → List Pr → List Pr → List Pr × List Pr × List Pr
  | [], h, l => ([], h, l)
  | p :: left, h, l => if ((h.length : Int) + (l.length : Int) < size) then (if late o p last then fillL o size last left h (l ++ [p]) else fillL o size last left (h ++ [p]) l) else (p :: left, h, l)
theorem fill_perm (o : Ord) (size : Int) (last : Option Pr) : ∀ (left h l : List Pr), ((fillL o size last left h l).1 ++ ((fillL o size last left h l).2.1 ++ (fillL o size last left h l).2.2)).Perm (left ++ (h ++ l))
  | [], h, l => .refl _
  | p :: left, h, l => by
    unfold fillL
    split
    · split
      · refine (fill_perm o size last left h (l ++ [p])).trans ?_
        have e : left ++ (h ++ (l ++ [p])) = (left ++ (h ++ l)) ++ [p] := by simp
        rw [e]
        exact List.perm_append_comm (l₂ := [p])
      · refine (fill_perm o size last left (h ++ [p]) l).trans ?_
        rw [List.append_assoc]
        have q : (left ++ (h ++ ([p] ++ l))).Perm (left ++ ([p] ++ (h ++ l))) := by
          refine List.Perm.append_left _ ?_
          rw [← List.append_assoc, ← List.append_assoc]
          exact List.Perm.append_right _ List.perm_append_comm
        exact q.trans List.perm_middle
    · exact .refl _
/-- with those here, or with one to come and none ahead of it: there are some here -/
theorem fill_here (o : Ord) (size : Int) (last : Option Pr) : ∀ (left h l : List Pr), h ≠ [] → (fillL o size last left h l).2.1 ≠ []
  | [], h, l, n => n
  | p :: left, h, l, n => by
    unfold fillL
    split
    · split
      · exact fill_here o size last left h (l ++ [p]) n
      · exact fill_here o size last left (h ++ [p]) l (by simp)
    · exact n
/-- one run: what is left, what is late, the run -/
def inner (o : Ord) (size : Int) : Nat → List Pr → List Pr → List Pr → List Pr → List Pr × List Pr × List Pr
  | 0, left, _, l, run => (left, l, run)
  | n + 1, left, h, l, run =>
    if (fillL o size run.getLast? left h l).2.1 = [] then ((fillL o size run.getLast? left h l).1, (fillL o size run.getLast? left h l).2.2, run)
    else inner o size n (fillL o size run.getLast? left h l).1 (outN (mn o (fillL o size run.getLast? left h l).2.1).1 (fillL o size run.getLast? left h l).2.1) (fillL o size run.getLast? left h l).2.2 (run ++ [mn o (fillL o size run.getLast? left h l).2.1])
def outer (o : Ord) (size : Int) : Nat → List Pr → List Pr → List (List Pr) → List (List Pr)
  | 0, _, _, found => found
  | n + 1, left, l, found => if left = [] ∧ l = [] then found else
    outer o size n (inner o size (left.length + l.length + 1) left l [] []).1 (inner o size (left.length + l.length + 1) left l [] []).2.1 (found ++ [(inner o size (left.length + l.length + 1) left l [] []).2.2])
def runsOf (o : Ord) (size : Int) (xs : List Pr) : List (List Pr) := outer o size (xs.length + 1) xs [] []
/-- the sizes, the kind of what stays, in one run -/
theorem inner_keeps {ks : List Str} {o : Ord} {size : Int} : ∀ (n : Nat) (left h l run : List Pr), Fine ks (left ++ (h ++ l)) → left.length + h.length + l.length < n → (∀ q ∈ run, isRow ks q.2 = true) →
    Fine ks ((inner o size n left h l run).1 ++ ([] ++ (inner o size n left h l run).2.1)) ∧ (inner o size n left h l run).1.length + (inner o size n left h l run).2.1.length + (inner o size n left h l run).2.2.length = left.length + h.length + l.length + run.length ∧
    (∀ q ∈ (inner o size n left h l run).2.2, isRow ks q.2 = true) ∧ run.length ≤ (inner o size n left h l run).2.2.length ∧ ((fillL o size run.getLast? left h l).2.1 ≠ [] → run.length < (inner o size n left h l run).2.2.length)
  | 0, left, h, l, run, _, b, _ => by omega
  | n + 1, left, h, l, run, f, b, hr => by
    have pm := fill_perm o size run.getLast? left h l
    unfold inner
    generalize fillL o size run.getLast? left h l = r at pm
    obtain ⟨l1, h1, t1⟩ := r
    dsimp only at pm ⊢
    have e := pm.length_eq
    simp only [List.length_append] at e
    split
    · rename_i hh
      subst hh
      exact ⟨f.perm pm, by show l1.length + t1.length + run.length = _; rw [List.length_nil] at e; omega, hr, Nat.le_refl _, fun z => absurd rfl z⟩
    · rename_i hh
      have f1 : Fine ks (l1 ++ (h1 ++ t1)) := f.perm pm
      have nd : (h1.map (·.1)).Nodup := (f1.right.left).nd
      have om := out_perm nd (mn_mem o hh)
      have ol := om.length_eq
      rw [List.length_cons] at ol
      have q1 : ((l1 ++ (outN (mn o h1).1 h1 ++ t1)) ).Sublist (l1 ++ (h1 ++ t1)) := List.Sublist.append (.refl _) (List.Sublist.append List.filter_sublist (.refl _))
      have rm : isRow ks (mn o h1).2 = true := f1.row _ (List.mem_append_right _ (List.mem_append_left _ (mn_mem o hh)))
      obtain ⟨a1, a2, a3, a4, a5⟩ := inner_keeps n l1 (outN (mn o h1).1 h1) t1 (run ++ [mn o h1]) (f1.sub q1) (by omega) (fun q hq => by
        rcases List.mem_append.mp hq with z | z
        · exact hr q z
        · rw [List.mem_singleton.mp z]; exact rm)
      rw [List.length_append, List.length_singleton] at a2 a4
      exact ⟨a1, by omega, a3, by omega, fun _ => by omega⟩
/-- a run takes one at least -/
theorem fill_some (o : Ord) {size : Int} (h1 : 1 ≤ size) {left l : List Pr} (n : ¬ (left = [] ∧ l = [])) : (fillL o size none left l []).2.1 ≠ [] := by
  by_cases hl : l = []
  · subst hl
    cases left with
    | nil => exact absurd ⟨rfl, rfl⟩ n
    | cons p left =>
      unfold fillL
      rw [if_pos (by simp; omega)]
      exact fill_here o size none left [p] [] (by simp)
  · exact fill_here o size none left l [] hl
end Rs

namespace Rs
open PySem PySem.Spec PyProof.Rows L2
/-! ### the room's cells beside those here and those late -/
def cells (k : Int) (h l : List Pr) : List Cell := h.map (fun q => (k, q)) ++ l.map fun q => (k + 1, q)
theorem cells_len {k : Int} {h l : List Pr} : (cells k h l).length = h.length + l.length := by simp [cells]
theorem cells_row {ks : List Str} {k : Int} {h l : List Pr} {cs : List Cell} (p : cs.Perm (cells k h l)) (r : ∀ q ∈ h ++ l, isRow ks q.2 = true) : ∀ c ∈ cs, isRow ks c.2.2 = true := fun c hc => by
  rcases List.mem_append.mp (p.mem_iff.mp hc) with z | z
  · obtain ⟨q, hq, rfl⟩ := List.mem_map.mp z
    exact r q (List.mem_append_left _ hq)
  · obtain ⟨q, hq, rfl⟩ := List.mem_map.mp z
    exact r q (List.mem_append_right _ hq)
theorem cells_come {o : Ord} {k : Int} {h l : List Pr} {cs cs' : List Cell} {q : Pr} {last : Option Pr} (p : cs.Perm (cells k h l)) (p' : cs'.Perm ((k + lateI o q last, q) :: cs)) :
    cs'.Perm (if late o q last then cells k h (l ++ [q]) else cells k (h ++ [q]) l) := by
  refine p'.trans ((p.cons _).trans ?_)
  unfold lateI
  cases late o q last with
  | true =>
    simp only [if_true]
    unfold cells
    rw [List.map_append, ← List.append_assoc]
    exact List.perm_append_comm (l₁ := [(k + 1, q)])
  | false =>
    simp only [Bool.false_eq_true, if_false, Int.add_zero]
    unfold cells
    rw [List.map_append, List.append_assoc]
    exact (List.perm_middle (l₁ := h.map fun q => (k, q)) (a := (k, q)) (l₂ := l.map fun q => (k + 1, q))).symm
theorem cells_turn {k : Int} {l : List Pr} : cells k [] l = cells (k + 1) l [] := by simp [cells]
theorem cells_min {ks : List Str} {o : Ord} (ho : ∀ t ∈ o, t.1 < ks.length) {k : Int} {h l : List Pr} {cs : List Cell} (f : Fine ks (h ++ l)) (p : cs.Perm (cells k h l)) (hh : IsHeap (cless o) c0 cs) (n : h ≠ []) : 0 < cs.length ∧ cs.getD 0 c0 = (k, mn o h) := by
  have hl := p.length_eq
  rw [cells_len] at hl
  have hpos : 0 < h.length := List.length_pos_iff.mpr n
  have hrows := cells_row p f.row
  have hc : 0 < cs.length := by omega
  have hmin := heap_min (cless_strict (ks := ks) ho) hrows hh (cless_irrefl o)
  have low : ∀ c ∈ cs, cless o c (cs.getD 0 c0) = false := fun c hc => by
    obtain ⟨i, hi, e⟩ := List.mem_iff_getElem.mp hc
    have t := hmin i hi
    rw [getD_lt hi, e] at t
    exact t
  refine ⟨hc, ?_⟩
  have hm : cs.getD 0 c0 ∈ cells k h l := p.mem_iff.mp (getD_mem hc)
  have inh : ∀ q ∈ h, ((k, q) : Cell) ∈ cs := fun q hq => p.mem_iff.mpr (List.mem_append_left _ (List.mem_map_of_mem hq))
  rcases List.mem_append.mp hm with z | z
  · obtain ⟨q, hq, e⟩ := List.mem_map.mp z
    rw [← e] at low ⊢
    congr 1
    refine mn_eq ho f.left hq fun y hy => ?_
    have t := low _ (inh y hy)
    unfold cless at t
    rw [if_neg (fun z => z rfl)] at t
    exact t
  · obtain ⟨q, hq, e⟩ := List.mem_map.mp z
    exfalso
    have t := low _ (inh _ (mn_mem o n))
    rw [← e] at t
    unfold cless at t
    rw [if_pos (by show k ≠ k + 1; omega)] at t
    have := of_decide_eq_false t
    have h2 : ¬ k < k + 1 := this
    omega
theorem cells_none {k : Int} {l : List Pr} {cs : List Cell} (p : cs.Perm (cells k [] l)) : cs = [] ∨ (cs.getD 0 c0).1 ≠ k := by
  cases hc : cs with
  | nil => exact .inl rfl
  | cons c cr =>
    right
    have m : c ∈ cells k [] l := p.mem_iff.mp (by rw [hc]; exact List.mem_cons_self ..)
    rw [cells, List.map_nil, List.nil_append] at m
    obtain ⟨q, _, e⟩ := List.mem_map.mp m
    show c.1 ≠ k
    rw [← e]
    show k + 1 ≠ k
    omega
theorem cells_take {ks : List Str} {o : Ord} {k : Int} {h l : List Pr} {cs cs' : List Cell} (f : Fine ks (h ++ l)) (p : cs.Perm (cells k h l)) (n : h ≠ []) (q : (((k, mn o h) : Cell) :: cs').Perm cs) : cs'.Perm (cells k (outN (mn o h).1 h) l) := by
  have op := out_perm f.left.nd (mn_mem o n)
  have e : (cells k h l).Perm ((k, mn o h) :: cells k (outN (mn o h).1 h) l) := by
    unfold cells
    exact List.Perm.append_right _ (op.map fun q => ((k, q) : Cell))
  exact (q.trans (p.trans e)).cons_inv
/-! ### what is there, as data -/
def keyD : Key → PyData
  | .inl i => .int i
  | .inr s => .str s
def rowD (r : Row) : PyData := .tuple (r.map keyD)
def pairD (p : Pr) : PyData := .tuple [.int p.1, rowD p.2]
def turnD (t : Nat × Bool) : PyData := .tuple [.int (t.1 : Int), .str (wayS t.2)]
def runD (xs : List Pr) : PyData := .list (xs.map pairD)
def runsD (rs : List (List Pr)) : PyData := .list (rs.map runD)
section
variable {K : PySem.W.Frag} {H : Hp}
theorem dpAll {α : Type} {R : Rel α} {f : α → PyData} (hf : ∀ v x, R H v x → Dp K H v (f x)) : ∀ {vs : List V} {xs : List α}, Paired (R H) vs xs → DpAll K H vs (xs.map f)
  | _, _, .nil => .nil
  | _, _, .cons h t => .cons (hf _ _ h) (dpAll hf t)
theorem key_dp (x : Key) : Dp K H (kV x) (keyD x) := by
  cases x
  · exact .int _
  · exact .str _
theorem keys_dp : ∀ r : Row, DpAll K H (r.map kV) (r.map keyD)
  | [] => .nil
  | x :: r => .cons (key_dp x) (keys_dp r)
theorem row_dp {v : V} {r : Row} (h : RowAt H v r) : Dp K H v (rowD r) := by
  obtain ⟨a, rfl, e⟩ := h
  exact .tup (SqT.of e) (keys_dp r)
theorem pair_dp {v : V} {p : Pr} (h : PairAt H v p) : Dp K H v (pairD p) := by
  obtain ⟨w, ⟨a, rfl, e⟩, hr⟩ := h
  exact .tup (SqT.of e) (.cons (.int _) (.cons (row_dp hr) .nil))
theorem turn_dp {v : V} {t : Nat × Bool} (h : TurnAt H v t) : Dp K H v (turnD t) := by
  obtain ⟨a, rfl, e⟩ := h
  exact .tup (SqT.of e) (.cons (.int _) (.cons (.str _) .nil))
theorem lst_dp {α : Type} {R : Rel α} {f : α → PyData} (hf : ∀ v x, R H v x → Dp K H v (f x)) {l : Addr} {xs : List α} (h : Lst R H l xs) : Dp K H (.ref l) (.list (xs.map f)) := by
  obtain ⟨vs, e, p⟩ := h
  exact .lst (SqL.of e) (dpAll hf p)
theorem run_dp {N : Addr → Prop} {v : V} {xs : List Pr} (h : ∃ l, v = .ref l ∧ N l ∧ Lst PairAt H l xs) : Dp K H v (runD xs) := by
  obtain ⟨l, rfl, _, h⟩ := h
  exact lst_dp (fun _ _ => pair_dp) h
end
/-- data that is plain, not deep, not long -/
def okD : Nat → PyData → Prop
  | 0, _ => False
  | _ + 1, .none => True
  | _ + 1, .bool _ => True
  | _ + 1, .int _ => True
  | _ + 1, .str x => PyData.strOk x = true
  | n + 1, .list ds => ds.length ≤ 100000 ∧ ∀ d ∈ ds, okD n d
  | n + 1, .tuple ds => ds.length ≤ 100000 ∧ ∀ d ∈ ds, okD n d
  | _ + 1, _ => False
theorem okD.up : ∀ {n : Nat} {d : PyData}, okD n d → okD (n + 1) d
  | 0, _, h => h.elim
  | n + 1, .none, _ => trivial
  | n + 1, .bool _, _ => trivial
  | n + 1, .int _, _ => trivial
  | n + 1, .str _, h => h
  | n + 1, .list ds, h => ⟨h.1, fun d hd => okD.up (h.2 d hd)⟩
  | n + 1, .tuple ds, h => ⟨h.1, fun d hd => okD.up (h.2 d hd)⟩
theorem okD.ups {n : Nat} {d : PyData} (h : okD n d) : ∀ k, okD (n + k) d
  | 0 => h
  | k + 1 => okD.up (okD.ups h k)
theorem letters_ok : ∀ c ∈ letters, c < 0x110000 := by decide +kernel
theorem value_ok {k : Str} {x : Key} (h : isValue k x = true) (n : Nat) : okD (n + 1) (keyD x) := by
  cases x with
  | inl i => trivial
  | inr s =>
    simp only [isValue, Bool.and_eq_true, List.all_eq_true, decide_eq_true_eq] at h
    show PyData.strOk s = true
    unfold PyData.strOk
    rw [Array.all_eq_true_iff_forall_mem]
    intro c hc
    exact decide_eq_true (letters_ok c (h.2.2 c (Array.mem_toList_iff.mpr hc)))
theorem row_ok {ks : List Str} {r : Row} (h : isRow ks r = true) (hk : ks.length ≤ 100000) (n : Nat) : okD (n + 2) (rowD r) := ⟨by rw [List.length_map, isRow_len h]; exact hk, fun d hd => by
  obtain ⟨x, hx, rfl⟩ := List.mem_map.mp hd
  obtain ⟨i, hi, e⟩ := List.mem_iff_getElem.mp hx
  have hi2 : i < ks.length := by rw [← isRow_len h]; exact hi
  have v := isRow_val h hi2
  have e2 : kcol r i = x := by
    have q := kcol_get hi
    rw [List.getElem?_eq_getElem hi, e] at q
    exact (Option.some.inj q).symm
  rw [e2] at v
  exact value_ok v n⟩
theorem pair_ok {ks : List Str} {p : Pr} (h : isRow ks p.2 = true) (hk : ks.length ≤ 100000) (n : Nat) : okD (n + 3) (pairD p) := ⟨by show 2 ≤ 100000; decide, fun d hd => by
  rcases List.mem_cons.mp hd with e | e
  · subst e; trivial
  · rw [List.mem_singleton.mp e]; exact row_ok h hk n⟩
theorem turn_ok (t : Nat × Bool) (n : Nat) : okD (n + 2) (turnD t) := ⟨by show 2 ≤ 100000; decide, fun d hd => by
  rcases List.mem_cons.mp hd with e | e
  · subst e; trivial
  · rw [List.mem_singleton.mp e]
    show PyData.strOk (wayS t.2) = true
    cases t.2 <;> decide +kernel⟩
theorem list_ok {α : Type} {f : α → PyData} {xs : List α} {n : Nat} (h : xs.length ≤ 100000) (hf : ∀ x ∈ xs, okD n (f x)) : okD (n + 1) (.list (xs.map f)) := ⟨by rw [List.length_map]; exact h, fun d hd => by
  obtain ⟨x, hx, rfl⟩ := List.mem_map.mp hd
  exact hf x hx⟩
mutual
theorem okD.lay : ∀ (n : Nat) (d : PyData), okD n d → d.canLay0 = true ∧ d.depth ≤ n
  | 0, _, h => h.elim
  | n + 1, .none, _ => ⟨rfl, by simp [PyData.depth]⟩
  | n + 1, .bool _, _ => ⟨rfl, by simp [PyData.depth]⟩
  | n + 1, .int _, _ => ⟨rfl, by simp [PyData.depth]⟩
  | n + 1, .str _, h => ⟨h, by simp [PyData.depth]⟩
  | n + 1, .list ds, h => by
    have := okD.layAll n ds h.2
    simp [PyData.canLay0, PyData.depth, this.1]
    omega
  | n + 1, .tuple ds, h => by
    have := okD.layAll n ds h.2
    simp [PyData.canLay0, PyData.depth, this.1]
    omega
theorem okD.layAll : ∀ (n : Nat) (ds : List PyData), (∀ d ∈ ds, okD n d) → PyData.canLayAll0 ds = true ∧ PyData.depthAll ds ≤ n
  | n, [], _ => ⟨rfl, by simp [PyData.depthAll]⟩
  | n, d :: ds, h => by
    have h1 := okD.lay n d (h d (List.mem_cons_self ..))
    have h2 := okD.layAll n ds fun e he => h e (List.mem_cons_of_mem _ he)
    simp [PyData.canLayAll0, PyData.depthAll, h1.1, h2.1]
    omega
end
theorem okD.shaped {n : Nat} {d : PyData} (h : okD n d) (hn : n ≤ 64) : SeqAt.shaped d = true := by
  have q := okD.lay n d h
  unfold SeqAt.shaped
  rw [q.1, decide_eq_true (Nat.le_trans q.2 hn)]
  rfl
theorem okD.eqv {n : Nat} {d : PyData} (h : okD n d) : PyData.eqv d d = true := SeqAt.eqv_refl d (okD.lay n d h).1
theorem pair_uneq {p q : Pr} (h : p.1 ≠ q.1) : PyData.eqv (pairD p) (pairD q) = false := by
  simp [pairD, PyData.eqv, PyData.eqvAll, h]
end Rs

namespace Rs
open PySem PySem.Spec PyProof.Rows L2
/-! ### runs in lists of their own -/
def RunAt (H0 : Hp) (S : List Addr) : Rel (List Pr) := fun H v xs => ∃ l, v = .ref l ∧ H0 l = none ∧ l ∉ S ∧ Lst PairAt H l xs
section
variable {H0 H H' : Hp} {S S' : List Addr} {v : V} {xs : List Pr} {x l lf : Addr} {found : List (List Pr)}
theorem RunAt.keep (h : RunAt H0 S H v xs) (t : TupLe H H') (k : ∀ l, H0 l = none → l ∉ S → ∀ o, H l = some o → H' l = some o) : RunAt H0 S H' v xs := let ⟨l, e, a, b, c⟩ := h; ⟨l, e, a, b, c.keep PairAt.st t (k l a b)⟩
theorem RunAt.sub (h : RunAt H0 S H v xs) (k : ∀ y ∈ S', y ∈ S) : RunAt H0 S' H v xs := let ⟨l, e, a, b, c⟩ := h; ⟨l, e, a, fun z => b (k _ z), c⟩
theorem RunAt.new (h : RunAt H0 S H v xs) (hx : H x = none) : RunAt H0 (x :: S) H v xs := by
  obtain ⟨l, e, a, b, c⟩ := h
  refine ⟨l, e, a, fun z => ?_, c⟩
  obtain ⟨vs, q, _⟩ := c
  rcases List.mem_cons.mp z with z | z
  · rw [z, hx] at q; cases q
  · exact b z
theorem run_at_dp {K : PySem.W.Frag} (h : RunAt H0 S H v xs) : Dp K H v (runD xs) := let ⟨l, e, a, b, c⟩ := h; run_dp (N := fun _ => True) ⟨l, e, trivial, c⟩
theorem Runs.sub (h : Lst (RunAt H0 S) H lf found) (k : ∀ y ∈ S', y ∈ S) : Lst (RunAt H0 S') H lf found := let ⟨vs, a, b⟩ := h; ⟨vs, a, P2.mono (fun _ _ q => q.sub k) b⟩
theorem Runs.new (h : Lst (RunAt H0 S) H lf found) (hx : H x = none) : Lst (RunAt H0 (x :: S)) H lf found := let ⟨vs, a, b⟩ := h; ⟨vs, a, P2.mono (fun _ _ q => q.new hx) b⟩
theorem Runs.same (h : Lst (RunAt H0 S) H lf found) (s : Same H H') : Lst (RunAt H0 S) H' lf found := let ⟨vs, a, b⟩ := h; ⟨vs, s _ _ a, P2.mono (fun _ _ q => q.keep (TupLe.same s) fun l _ _ => s l) b⟩
theorem Runs.put {ys : List V} {u : HO} (h : Lst (RunAt H0 S) H lf found) (hx : H x = some (.lst ys)) (hs : x ∈ S) (n : lf ≠ x) : Lst (RunAt H0 S) (upd H x u) lf found := let ⟨vs, a, b⟩ := h; ⟨vs, up a n, P2.mono (fun _ _ q => q.keep ((TupLe.refl H).list hx) fun l _ hl o e => up e fun z => hl (by rw [z]; exact hs)) b⟩
theorem Lst.off {ys : List V} {u : HO} (h : Lst PairAt H l xs) (hx : H x = some (.lst ys)) (n : l ≠ x) : Lst PairAt (upd H x u) l xs := h.keep PairAt.st ((TupLe.refl H).list hx) fun o e => up e n
theorem Lst.on {ys vs : List V} (hx : H l = some (.lst ys)) (p : Paired (PairAt H) vs xs) : Lst PairAt (upd H l (.lst vs)) l xs := ⟨vs, upd_same, Paired.tl PairAt.st ((TupLe.refl H).list hx) p⟩
/-- a list of its own put at the end of the runs -/
theorem Runs.add {vs : List V} {ys : List (List Pr)} (hx : H lf = some (.lst vs)) (p : Paired (RunAt H0 S H) vs ys) (hs : lf ∈ S) {lr : Addr} {run : List Pr} (n : lr ≠ lf) (hn : H0 lr = none) (hr : lr ∉ S) (L : Lst PairAt H lr run) : Lst (RunAt H0 S) (upd H lf (.lst (vs ++ [.ref lr]))) lf (ys ++ [run]) := by
  have t : TupLe H (upd H lf (.lst (vs ++ [.ref lr]))) := (TupLe.refl H).list hx
  exact ⟨_, upd_same, P2.app (P2.mono (fun _ _ q => q.keep t fun l _ hl o e => up e fun z => hl (by rw [z]; exact hs)) p) (P2.one ⟨lr, rfl, hn, hr, L.off hx n⟩)⟩
end
/-- five lists: those left, here, late, the runs, the run -/
structure LR (H0 H : Hp) (a b c d e : Addr) (left here late : List Pr) (found : List (List Pr)) (run : List Pr) : Prop where
  same : Same H0 H
  fr : ∀ x ∈ [a, b, c, d, e], H0 x = none
  nd : [a, b, c, d, e].Nodup
  la : Lst PairAt H a left
  lb : Lst PairAt H b here
  lc : Lst PairAt H c late
  ld : Lst (RunAt H0 [a, b, c, d, e]) H d found
  le : Lst PairAt H e run
section
variable {H0 H H' : Hp} {a b c d e : Addr} {left here late left' here' late' : List Pr} {found : List (List Pr)} {run run' : List Pr} {vs : List V}
theorem nd5 (h : [a, b, c, d, e].Nodup) : ((a ≠ b ∧ a ≠ c ∧ a ≠ d ∧ a ≠ e) ∧ (b ≠ c ∧ b ≠ d ∧ b ≠ e) ∧ (c ≠ d ∧ c ≠ e) ∧ d ≠ e) := by simpa using h
theorem LR.on (L : LR H0 H a b c d e left here late found run) (s : Same H H') : LR H0 H' a b c d e left here late found run := ⟨L.same.trans s, L.fr, L.nd, L.la.same PairAt.st s, L.lb.same PairAt.st s, L.lc.same PairAt.st s, Runs.same L.ld s, L.le.same PairAt.st s⟩
theorem LR.pa (L : LR H0 H a b c d e left here late found run) (p : Paired (PairAt H) vs left') : LR H0 (upd H a (.lst vs)) a b c d e left' here late found run := by
  obtain ⟨⟨ab, ac, ad, ae⟩, ⟨bc, bd, be⟩, ⟨cd, ce⟩, de⟩ := nd5 L.nd
  obtain ⟨ys, hx, _⟩ := L.la
  exact ⟨Rs.Same.mut L.same (L.fr _ (by simp)), L.fr, L.nd, Lst.on hx p, L.lb.off hx ab.symm, L.lc.off hx ac.symm, Runs.put L.ld hx (by simp) ad.symm, L.le.off hx ae.symm⟩
theorem LR.pb (L : LR H0 H a b c d e left here late found run) (p : Paired (PairAt H) vs here') : LR H0 (upd H b (.lst vs)) a b c d e left here' late found run := by
  obtain ⟨⟨ab, ac, ad, ae⟩, ⟨bc, bd, be⟩, ⟨cd, ce⟩, de⟩ := nd5 L.nd
  obtain ⟨ys, hx, _⟩ := L.lb
  exact ⟨Rs.Same.mut L.same (L.fr _ (by simp)), L.fr, L.nd, L.la.off hx ab, Lst.on hx p, L.lc.off hx bc.symm, Runs.put L.ld hx (by simp) bd.symm, L.le.off hx be.symm⟩
theorem LR.pc (L : LR H0 H a b c d e left here late found run) (p : Paired (PairAt H) vs late') : LR H0 (upd H c (.lst vs)) a b c d e left here late' found run := by
  obtain ⟨⟨ab, ac, ad, ae⟩, ⟨bc, bd, be⟩, ⟨cd, ce⟩, de⟩ := nd5 L.nd
  obtain ⟨ys, hx, _⟩ := L.lc
  exact ⟨Rs.Same.mut L.same (L.fr _ (by simp)), L.fr, L.nd, L.la.off hx ac, L.lb.off hx bc, Lst.on hx p, Runs.put L.ld hx (by simp) cd.symm, L.le.off hx ce.symm⟩
theorem LR.pe (L : LR H0 H a b c d e left here late found run) (p : Paired (PairAt H) vs run') : LR H0 (upd H e (.lst vs)) a b c d e left here late found run' := by
  obtain ⟨⟨ab, ac, ad, ae⟩, ⟨bc, bd, be⟩, ⟨cd, ce⟩, de⟩ := nd5 L.nd
  obtain ⟨ys, hx, _⟩ := L.le
  exact ⟨Rs.Same.mut L.same (L.fr _ (by simp)), L.fr, L.nd, L.la.off hx ae, L.lb.off hx be, L.lc.off hx ce, Runs.put L.ld hx (by simp) de, Lst.on hx p⟩
end
theorem prs_fine {ks : List Str} {rows : List Row} (h : ∀ r ∈ rows, isRow ks r = true) : Fine ks (prs rows) := by
  refine ⟨fun p hp => ?_, ?_⟩
  · obtain ⟨i, hi, rfl⟩ := List.mem_map.mp hp
    rw [List.mem_range] at hi
    refine h _ ?_
    rw [List.getD_eq_getElem?_getD, List.getElem?_eq_getElem hi]
    exact List.getElem_mem hi
  · unfold prs
    rw [List.map_map]
    exact nodup_cast (l := List.range rows.length) List.nodup_range
theorem prs_len {rows : List Row} : (prs rows).length = rows.length := by simp [prs]
abbrev N_law_runs : List Str := ["_law_order_here", "_law_size", "_law_rows_here", "_law_left", "_law_here", "_law_late", "_law_found", "_law_run", "_law_over", "_law_pair"]
abbrev P_law_runs : List Str := ["_law_order_here", "_law_size", "_law_rows_here"]
def sp_law_runs (K : PySem.W.Frag) : Sp := fun vs H Q E => match vs with
  | [ov, sz, rv] => ∃ ks o size rows, LstV TurnAt H ov o ∧ sz = .int size ∧ LstV RowAt H rv rows ∧ (∀ t ∈ o, t.1 < ks.length) ∧ (∀ r ∈ rows, isRow ks r = true) ∧ ks.length ≤ 4 ∧ 1 ≤ size ∧ rows.length ≤ 900 ∧
    ∀ f H', H f = none → Lst (RunAt H []) H' f (runsOf o size (prs rows)) → Same H H' → Q (.ref f) H'
  | _ => False
def t_law_runs (K : PySem.W.Frag) (E : XK) : TS := (tSeq (tAsg (tCall (sp_law_pairs K) [] E (tCons (tVar 2) tNil)) (gName 3))
  (tSeq (tPar 4 5 (tCons (tLst tNil) (tCons (tLst tNil) tNil)))
   (tSeq (tAsg (tLst tNil) (gName 6))
    (tSeq (tWhile (tOr (tTest (tOp (xNeE K) (tVar 3) (tLst tNil))) (tOr (tTest (tOp (xNeE K) (tVar 4) (tLst tNil))) (tTest (tOp (xNeE K) (tVar 5) (tLst tNil))))) 
       (tSeq (tPar 4 5 (tCons (tVar 5) (tCons (tLst tNil) tNil)))
       (tSeq (tAsg (tLst tNil) (gName 7))
        (tSeq (tAsg (tC (.bl false)) (gName 8))
         (tSeq (tWhile (tNot (tB (tVar 8))) 
            (tSeq (tWhile (tAnd (tTest (tOp (xNeE K) (tVar 3) (tLst tNil))) (tTest (tOp xLt (tOp xAdd (tCB1 (xLen K) (tVar 4)) (tCB1 (xLen K) (tVar 5))) (tVar 1)))) 
              (tSeq (tAsg (tBM K "list" rPopAt (tVar 3) (tConsC (.int 0) tNil)) (gName 9))
              (tIfS (tAnd (tTest (tOp (xNeE K) (tVar 7) (tLst tNil))) (tB (tCall (sp_law_ahead K) [] E (tCons (tVar 0) (tCons (tVar 9) (tCons (tOpC (rIxL K) (tVar 7) (.int (-1))) tNil)))))) (tDrop (tBM K "list" rAppend (tVar 5) (tCons (tVar 9) tNil))) (tDrop (tBM K "list" rAppend (tVar 4) (tCons (tVar 9) tNil))))))
            (tSeq (tAsg (tOp (xEqE K) (tVar 4) (tLst tNil)) (gName 8))
             (tIfS (tNot (tB (tVar 8))) (tDrop (tBM K "list" rAppend (tVar 7) (tCons (tBM K "list" rPopAt (tVar 4) (tCons (tBM K "list" (rIndexD K) (tVar 4) (tCons (tOpC (rIxL K) (tCall (sp_law_sorted K) [] E (tCons (tVar 0) (tCons (tVar 4) tNil))) (.int 0)) tNil)) tNil)) tNil))) tNext))))
          (tDrop (tBM K "list" rAppend (tVar 6) (tCons (tVar 7) tNil))))))))
     (tRet (tVar 6))))))
/-- xs != [] of the list at slot i -/
theorem ne_test {K : PySem.W.Frag} {σ : L2.St} {H : Hp} {l : Addr} {xs : List V} {i : Nat} {Q : Bool → Hp → Prop} (hσ : σ[i]? = some (some (.ref l))) (h : H l = some (.lst xs)) (q : ∀ H', Same H H' → Q (!xs.isEmpty) H') : (tTest (tOp (xNeE K) (tVar i) (tLst tNil))) σ H Q :=
  ⟨_, hσ, sz0, fun p hp => neE h hp rfl ⟨_, rfl, q _ (Rs.Same.new hp)⟩⟩
theorem or_test {K : PySem.W.Frag} {σ : L2.St} {H : Hp} {l : Addr} {xs : List V} {i : Nat} {u : TT} {Q : Bool → Hp → Prop} (hσ : σ[i]? = some (some (.ref l))) (h : H l = some (.lst xs)) (q1 : xs ≠ [] → ∀ H', Same H H' → Q true H') (q2 : xs = [] → ∀ H', Same H H' → u σ H' Q) : (tOr (tTest (tOp (xNeE K) (tVar i) (tLst tNil))) u) σ H Q := by
  refine ne_test (K := K) hσ h fun H' s => ?_
  cases xs with
  | nil => exact q2 rfl _ s
  | cons x xs => exact q1 (by simp) _ s
theorem pure_law_runs {K : PySem.W.Frag} : ∀ vs H Q E, sp_law_runs K vs H Q E → t_law_runs K E { nx := fun _ H' => Q .non H', rt := Q } (start N_law_runs vs) H := by
  intro vs H Q E h
  match vs, h with
  | [ov, sz, rv], h =>
    obtain ⟨ks, o, size, rows, ho, rfl, hrows, hcol, hgood, hks, hs1, hlen, k⟩ := h
    refine ⟨_, rfl, rows, hrows, by omega, fun ll H1 hll L1 s1 => ?_⟩
    refine ⟨sz0, fun lh hlh => ⟨sz0, fun lt hlt => ⟨_, _, rfl, ?_⟩⟩⟩
    refine ⟨sz0, fun lf hlf => ?_⟩
    have s2 := s1.trans (Rs.Same.new (o := .lst []) hlh)
    have s3 := s2.trans (Rs.Same.new (o := .lst []) hlt)
    have s4 := s3.trans (Rs.Same.new (o := .lst []) hlf)
    have flh := s1.free hlh
    have flt := s2.free hlt
    have flf := s3.free hlf
    generalize hH4 : upd (upd (upd H1 lh (.lst [])) lt (.lst [])) lf (.lst []) = H4 at s4
    have nlh : ll ≠ lh := by obtain ⟨_, e, _⟩ := L1; exact ne_of_none e hlh
    have L1' : Lst PairAt H4 ll (prs rows) := by
      rw [← hH4]
      exact ((L1.same PairAt.st (Rs.Same.new hlh)).same PairAt.st (Rs.Same.new hlt)).same PairAt.st (Rs.Same.new hlf)
    have nfh : lh ≠ lf := ne_of_none (un upd_same hlt) hlf
    have nft : lt ≠ lf := ne_of_none upd_same hlf
    have nht : lh ≠ lt := ne_of_none upd_same hlt
    have nlt : ll ≠ lt := by obtain ⟨_, e, _⟩ := L1; exact ne_of_none (un e hlh) hlt
    have nlf : ll ≠ lf := by obtain ⟨_, e, _⟩ := L1; exact ne_of_none (un (un e hlh) hlt) hlf
    have Lh : Lst PairAt H4 lh [] := ⟨[], by rw [← hH4]; exact up (up upd_same nht) nfh, .nil⟩
    have Lt : Lst PairAt H4 lt [] := ⟨[], by rw [← hH4]; exact up upd_same nft, .nil⟩
    have Lf : Lst (RunAt H [ll, lt, lf]) H4 lf [] := ⟨[], by rw [← hH4]; exact upd_same, .nil⟩
    have pf := prs_fine hgood
    have pl := prs_len (rows := rows)
    generalize hR : runsOf o size (prs rows) = R at k
    refine ⟨fun n σ H' => ∃ (lh lt : Addr) (left late : List Pr) (found : List (List Pr)) (x7 x8 x9 : Option V), σ = [some ov, some (.int size), some rv, some (.ref ll), some (.ref lh), some (.ref lt), some (.ref lf), x7, x8, x9] ∧ Same H H' ∧ H lt = none ∧ ll ≠ lt ∧ lt ≠ lf ∧ Lst PairAt H' ll left ∧ Lst PairAt H' lh [] ∧ Lst PairAt H' lt late ∧ Lst (RunAt H [ll, lt, lf]) H' lf found ∧
        Fine ks (left ++ late) ∧ left.length + late.length < n ∧ left.length + late.length ≤ 900 ∧ found.length + n ≤ 1000 ∧ outer o size n left late found = R,
      ⟨(prs rows).length + 1, lh, lt, prs rows, [], [], none, none, none, rfl, s4, flt, nlt, nft, L1', Lh, Lt, Lf, by rw [List.append_nil]; exact pf, by simp, by rw [List.length_nil]; omega, by rw [List.length_nil]; omega, hR⟩, ?_⟩
    clear Lh Lt Lf L1' hH4 s2 s3 s4 flh flt nlh nfh nft nht nlt hlf hlt hlh L1 s1
    clear lh lt H4
    rintro n σ H2 ⟨lh, lt, left, late, found, x7, x8, x9, rfl, s, flt, nlt, nft, L1, Lh, Lt, Lf, fine, hn, hle, hfn, hout⟩
    obtain ⟨m, rfl⟩ : ∃ m, n = m + 1 := ⟨n - 1, by omega⟩
    obtain ⟨va, ea, pa⟩ := L1
    obtain ⟨vb, eb, pb⟩ := Lh
    obtain ⟨vc, ec, pc⟩ := Lt
    have L1 : Lst PairAt H2 ll left := ⟨va, ea, pa⟩
    have Lh : Lst PairAt H2 lh [] := ⟨vb, eb, pb⟩
    have Lt : Lst PairAt H2 lt late := ⟨vc, ec, pc⟩
    -- the test
    have test : ∀ Q : Bool → Hp → Prop, (∀ H', Same H2 H' → Q (decide (¬ (left = [] ∧ late = []))) H') → (tOr (tTest (tOp (xNeE K) (tVar 3) (tLst tNil))) (tOr (tTest (tOp (xNeE K) (tVar 4) (tLst tNil))) (tTest (tOp (xNeE K) (tVar 5) (tLst tNil)))) : TT)
        [some ov, some (.int size), some rv, some (.ref ll), some (.ref lh), some (.ref lt), some (.ref lf), x7, x8, x9] H2 Q := fun Q q => by
      have la := pa.length
      have lb := pb.length
      have lc := pc.length
      refine or_test (l := ll) rfl ea (fun ne H' s => ?_) fun e1 H3 s3 => or_test (l := lh) rfl (s3 _ _ eb) (fun ne H' s => ?_) fun _ H4 s4 => ne_test (l := lt) rfl ((s3.trans s4) _ _ ec) fun H5 s5 => ?_
      · have e : decide (¬ (left = [] ∧ late = [])) = true := decide_eq_true fun z => ne (by rw [z.1] at la; exact List.length_eq_zero_iff.mp la)
        rw [← e]
        exact q _ s
      · exact absurd (List.length_eq_zero_iff.mp lb) ne
      · have hq := q _ ((s3.trans s4).trans s5)
        rw [e1] at la
        have l0 : left = [] := List.length_eq_zero_iff.mp la.symm
        cases vc with
        | nil =>
          have l1 : late = [] := List.length_eq_zero_iff.mp lc.symm
          have eD : decide (¬ (left = [] ∧ late = [])) = false := by rw [decide_eq_false_iff_not]; exact fun z => z ⟨l0, l1⟩
          rw [eD] at hq
          exact hq
        | cons c cr =>
          have eD : decide (¬ (left = [] ∧ late = [])) = true := decide_eq_true fun z => by rw [z.2] at lc; simp at lc
          rw [eD] at hq
          exact hq
    refine test _ fun H3 s3 => ?_
    dsimp only
    unfold outer at hout
    by_cases hne : left = [] ∧ late = []
    · have eD : decide (¬ (left = [] ∧ late = [])) = false := by rw [decide_eq_false_iff_not]; exact fun z => z hne
      rw [eD]
      rw [if_pos hne] at hout
      subst hout
      exact ⟨_, rfl, k lf _ flf (Runs.sub (Runs.same Lf s3) (by simp)) (s.trans s3)⟩
    have eD : decide (¬ (left = [] ∧ late = [])) = true := decide_eq_true hne
    rw [eD]
    rw [if_neg hne] at hout
    have fine0 : Fine ks (left ++ (late ++ [])) := by rw [List.append_nil]; exact fine
    have kp := inner_keeps (ks := ks) (o := o) (size := size) (left.length + late.length + 1) left late [] [] fine0 (by simp) (by simp)
    have some_ := fill_some o hs1 hne
    generalize hR2 : inner o size (left.length + late.length + 1) left late [] [] = R2 at hout kp
    refine ⟨_, fun σ' H' h => h, ?_⟩
    have sA := s.trans s3
    refine ⟨_, rfl, sz0, fun t ht => ⟨_, _, rfl, ?_⟩⟩
    refine ⟨sz0, fun lr hlr => ?_⟩
    have sB : Same H2 (upd H3 t (.lst [])) := s3.trans (Rs.Same.new ht)
    have sC : Same H2 (upd (upd H3 t (.lst [])) lr (.lst [])) := sB.trans (Rs.Same.new hlr)
    have ft : H t = none := sA.free ht
    have flr : H lr = none := (s.trans sB).free hlr
    have Lf2 : Lst (RunAt H [lr, t, ll, lt, lf]) (upd (upd H3 t (.lst [])) lr (.lst [])) lf found := Runs.same (Runs.new (Runs.same (Runs.new (Runs.same Lf s3) ht) (Rs.Same.new ht)) hlr) (Rs.Same.new hlr)
    have nd : [ll, lt, t, lf, lr].Nodup := by
      have a1 : ll ≠ t := ne_of_none (s3 _ _ ea) ht
      have a2 : lt ≠ t := ne_of_none (s3 _ _ ec) ht
      have a3 : ll ≠ lr := ne_of_none (sB _ _ ea) hlr
      have a4 : lt ≠ lr := ne_of_none (sB _ _ ec) hlr
      obtain ⟨vf, ef, _⟩ := Lf
      have a5 : lf ≠ t := ne_of_none (s3 _ _ ef) ht
      have a6 : lf ≠ lr := ne_of_none (sB _ _ ef) hlr
      have a7 : t ≠ lr := ne_of_none upd_same hlr
      simp only [List.nodup_cons, List.mem_cons, List.not_mem_nil, or_false, not_or, not_false_eq_true, and_true, List.nodup_nil]
      exact ⟨⟨nlt, a1, nlf, a3⟩, ⟨a2, nft, a4⟩, ⟨a5.symm, a7⟩, a6⟩
    have LR0 : LR H (upd (upd H3 t (.lst [])) lr (.lst [])) ll lt t lf lr left late [] found [] := by
      refine ⟨s.trans sC, fun x hx => ?_, nd, L1.same PairAt.st sC, Lt.same PairAt.st sC, ⟨[], un upd_same hlr, .nil⟩, Runs.sub Lf2 ?_, ⟨[], upd_same, .nil⟩⟩
      · simp only [List.mem_cons, List.not_mem_nil, or_false] at hx
        rcases hx with rfl | rfl | rfl | rfl | rfl
        · exact hll
        · exact flt
        · exact ft
        · exact flf
        · exact flr
      · intro y hy
        simp only [List.mem_cons, List.not_mem_nil, or_false] at hy ⊢
        rcases hy with z | z | z | z | z <;> simp [z]
    refine ⟨fun k σ H' => ∃ (left here late : List Pr) (run : List Pr) (over : Bool) (x9 : Option V), σ = [some ov, some (.int size), some rv, some (.ref ll), some (.ref lt), some (.ref t), some (.ref lf), some (.ref lr), some (.bl over), x9] ∧ LR H H' ll lt t lf lr left here late found run ∧ Fine ks (left ++ (here ++ late)) ∧ (∀ q ∈ run, isRow ks q.2 = true) ∧
        left.length + here.length + late.length + run.length ≤ 900 ∧ (over = true → here = [] ∧ (left, late, run) = R2) ∧ (over = false → left.length + here.length + late.length < k ∧ inner o size k left here late run = R2),
      ⟨left.length + late.length + 1, left, late, [], [], false, x9, rfl, LR0, fine0, by simp, by rw [List.length_nil]; omega, fun z => (by cases z), fun _ => ⟨by rw [List.length_nil]; omega, hR2⟩⟩, ?_⟩
    clear LR0 Lf2 sB sC L1 Lh Lt ea eb ec pa pb pc fine0 test
    rintro k' σ H5 ⟨left', here', late', run', over, x9, rfl, L, fine', hrow, htot, hov, hno⟩
    refine ⟨_, rfl, _, rfl, ?_⟩
    cases over with
    | true =>
      obtain ⟨rfl, e2⟩ := hov rfl
      subst e2
      obtain ⟨_, k2, _, _, k5⟩ := kp
      have k6 := k5 some_
      dsimp only at k2 k6 hout
      obtain ⟨vf, ef, pf'⟩ := L.ld
      have lf' := pf'.length
      obtain ⟨⟨q1, q2, q3, q4⟩, ⟨q5, q6, q7⟩, ⟨q8, q9⟩, q10⟩ := nd5 L.nd
      refine ⟨_, rfl, .inl ⟨rfl, _, SqL.of ef⟩, _, rfl, lf, _, _, rfl, rfl, ef, szlt (by omega), ?_⟩
      refine ⟨m, by omega, lt, t, left', late', found ++ [run'], _, _, _, rfl, Rs.Same.mut L.same flf, ft, q2, q8, L.la.off ef q3, L.lb.off ef q6, L.lc.off ef q8, ?_, ?_, ?_, ?_, ?_, hout⟩
      · exact Runs.add ef (P2.mono (fun _ _ q => q.sub (by intro y hy; simp only [List.mem_cons, List.not_mem_nil, or_false] at hy ⊢; rcases hy with z | z | z <;> simp [z])) pf') (by simp) q10.symm flr (by simp only [List.mem_cons, List.not_mem_nil, or_false, not_or]; exact ⟨q4.symm, q9.symm, q10.symm⟩) L.le
      · exact fine'
      · simp only [List.length_nil] at k2 k6; omega
      · simp only [List.length_nil] at k2 k6; omega
      · rw [List.length_append, List.length_singleton]; omega
    | false =>
      obtain ⟨hk, hin⟩ := hno rfl
      obtain ⟨k1, rfl⟩ : ∃ k1, k' = k1 + 1 := ⟨k' - 1, by omega⟩
      unfold inner at hin
      have pm := fill_perm o size run'.getLast? left' here' late'
      generalize hRF : fillL o size run'.getLast? left' here' late' = RF at hin pm
      refine ⟨_, fun σ' H' h => h, ?_⟩
      refine ⟨fun j σ H' => ∃ (left here late : List Pr) (x9 : Option V), j = left.length ∧ σ = [some ov, some (.int size), some rv, some (.ref ll), some (.ref lt), some (.ref t), some (.ref lf), some (.ref lr), some (.bl false), x9] ∧ LR H H' ll lt t lf lr left here late found run' ∧ Fine ks (left ++ (here ++ late)) ∧
          left.length + here.length + late.length = left'.length + here'.length + late'.length ∧ fillL o size run'.getLast? left here late = RF,
        ⟨_, left', here', late', x9, rfl, rfl, L, fine', rfl, hRF⟩, ?_⟩
      clear L fine' x9 hov hno
      rintro j σ H6 ⟨left2, here2, late2, x9, rfl, rfl, L, fine2, hsum, hfill⟩
      obtain ⟨va, ea, pa⟩ := L.la
      obtain ⟨vb, eb, pb⟩ := L.lb
      obtain ⟨vc, ec, pc⟩ := L.lc
      obtain ⟨ve, ee, pe⟩ := L.le
      have la := pa.length
      have lb := pb.length
      have lc := pc.length
      have le := pe.length
      -- no more come in
      have over : ∀ H7, Same H6 H7 → (left2, here2, late2) = RF → ∀ D : Ends, (∀ σ' H', (∃ k'', k'' < k1 + 1 ∧ ∃ (left here late : List Pr) (run : List Pr) (over : Bool) (x9 : Option V), σ' = [some ov, some (.int size), some rv, some (.ref ll), some (.ref lt), some (.ref t), some (.ref lf), some (.ref lr), some (.bl over), x9] ∧ LR H H' ll lt t lf lr left here late found run ∧ Fine ks (left ++ (here ++ late)) ∧ (∀ q ∈ run, isRow ks q.2 = true) ∧
          left.length + here.length + late.length + run.length ≤ 900 ∧ (over = true → here = [] ∧ (left, late, run) = R2) ∧ (over = false → left.length + here.length + late.length < k'' ∧ inner o size k'' left here late run = R2)) → D.nx σ' H') →
          ((tSeq (tAsg (tOp (xEqE K) (tVar 4) (tLst tNil)) (gName 8)) (tIfS (tNot (tB (tVar 8))) (tDrop (tBM K "list" rAppend (tVar 7) (tCons (tBM K "list" rPopAt (tVar 4) (tCons (tBM K "list" (rIndexD K) (tVar 4) (tCons (tOpC (rIxL K) (tCall (sp_law_sorted K) [] E (tCons (tVar 0) (tCons (tVar 4) tNil))) (.int 0)) tNil)) tNil)) tNil))) tNext)) : TS) D
          [some ov, some (.int size), some rv, some (.ref ll), some (.ref lt), some (.ref t), some (.ref lf), some (.ref lr), some (.bl false), x9] H7 := by
        intro H7 s7 eRF D hD
        subst eRF
        dsimp only at hin
        refine ⟨_, rfl, sz0, fun p hp => eqE (s7 _ _ eb) hp (b := decide (here2 = [])) (by cases vb <;> cases here2 <;> first | rfl | simp at lb) ⟨_, rfl, _, rfl, ?_⟩⟩
        have L8 := (L.on s7).on (Rs.Same.new (o := .lst []) hp)
        have s8 : Same H6 (upd H7 p (.lst [])) := s7.trans (Rs.Same.new hp)
        by_cases hh : here2 = []
        · rw [decide_eq_true hh]
          rw [if_pos hh] at hin
          exact hD _ _ ⟨0, by omega, left2, here2, late2, run', true, x9, rfl, L8, fine2, hrow, by omega, fun _ => ⟨hh, hin⟩, fun z => by cases z⟩
        rw [decide_eq_false hh]
        rw [if_neg hh] at hin
        have hm := mn_mem o hh
        have fh : Fine ks here2 := fine2.right.left
        refine ⟨_, rfl, .inl ⟨rfl, _, SqL.of (s8 _ _ ee)⟩, _, rfl, .inl ⟨rfl, _, SqL.of (s8 _ _ eb)⟩, _, rfl, .inl ⟨rfl, _, SqL.of (s8 _ _ eb)⟩, _, rfl, _, rfl, ?_⟩
        refine ⟨ks, o, here2, LstV.same TurnAt.st L8.same ho, ⟨lt, rfl, L8.lb⟩, hcol, fh, by omega, fun f ys H9 nf hys pys uys s9 => ?_⟩
        have eys := srt_eq hcol fh pys uys
        subst eys
        obtain ⟨yv, ey, py⟩ := hys
        have L9 := L8.on s9
        have hlt : 0 < (srt o here2).length := by
          rw [(srt_perm o here2).length_eq]
          exact List.length_pos_iff.mpr hh
        obtain ⟨v0, hv0, r0⟩ := P2.get' py (List.getElem?_eq_getElem hlt)
        have e0 : (srt o here2)[0] = mn o here2 := (getD_lt (d := c0.2) hlt).symm
        rw [e0] at r0
        refine ixL ey (j := 0) rfl hv0 ?_
        obtain ⟨j, hj⟩ := List.mem_iff_getElem?.mp hm
        have hjl := (List.getElem?_eq_some_iff.mp hj).1
        obtain ⟨vb9, eb9, pb9⟩ := L9.lb
        obtain ⟨ve9, ee9, pe9⟩ := L9.le
        have lb9 := pb9.length
        have le9 := pe9.length
        obtain ⟨w, hw, rw_⟩ := P2.get' pb9 hj
        have okh : ∀ q ∈ here2, okD 3 (pairD q) := fun q hq => pair_ok (fh.row q hq) (by omega) 0
        refine ⟨lt, v0, pairD (mn o here2), here2.map pairD, j, pairD (mn o here2), rfl, rfl, lst_dp (fun _ _ => pair_dp) L9.lb, pair_dp r0, (list_ok (n := 3) (by omega) okh).shaped (by decide), (okh _ hm).shaped (by decide), by rw [List.getElem?_map, hj]; rfl, (okh _ hm).eqv, ?_, ?_⟩
        · intro i z hi hz
          rw [List.getElem?_map] at hz
          obtain ⟨q, hq, rfl⟩ := Option.map_eq_some_iff.mp hz
          refine pair_uneq fun e => ?_
          have hil := (List.getElem?_eq_some_iff.mp hq).1
          have hn := List.pairwise_iff_getElem.mp (show List.Pairwise (· ≠ ·) (here2.map (·.1)) from fh.nd) i j (by rw [List.length_map]; exact hil) (by rw [List.length_map]; exact hjl) hi
          rw [List.getElem_map, List.getElem_map] at hn
          have g1 : here2[i] = q := by rw [List.getElem?_eq_getElem hil] at hq; exact Option.some.inj hq
          have g2 : here2[j] = mn o here2 := by rw [List.getElem?_eq_getElem hjl] at hj; exact Option.some.inj hj
          rw [g1, g2] at hn
          exact hn e
        refine ⟨lt, _, _, j, w, rfl, rfl, eb9, by omega, by omega, seqIx (by omega), hw, ?_⟩
        have pbe := P2.erase j pb9
        rw [out_erase fh.nd hj] at pbe
        have L10 := L9.pb pbe
        obtain ⟨⟨q1, q2, q3, q4⟩, ⟨q5, q6, q7⟩, ⟨q8, q9⟩, q10⟩ := nd5 L.nd
        refine ⟨lr, _, _, rfl, rfl, up ee9 q7.symm, szlt (by omega), hD _ _ ?_⟩
        have tt : TupLe H9 (upd H9 lt (.lst (vb9.eraseIdx j))) := (TupLe.refl _).list eb9
        have L11 := L10.pe (P2.app (Paired.tl PairAt.st tt pe9) (P2.one (PairAt.st _ _ _ _ tt rw_)))
        have op := out_perm fh.nd hm
        have ol := op.length_eq
        rw [List.length_cons] at ol
        refine ⟨k1, by omega, left2, outN (mn o here2).1 here2, late2, run' ++ [mn o here2], false, x9, rfl, L11, ?_, ?_, ?_, fun z => (by cases z), fun _ => ⟨by omega, hin⟩⟩
        · exact fine2.sub (List.Sublist.append (.refl _) (List.Sublist.append List.filter_sublist (.refl _)))
        · intro q hq
          rcases List.mem_append.mp hq with z | z
          · exact hrow q z
          · rw [List.mem_singleton.mp z]; exact fh.row _ hm
        · rw [List.length_append, List.length_singleton]; omega
      refine ne_test (l := ll) rfl ea fun H7 s7 => ?_
      cases left2 with
      | nil =>
        cases va with
        | cons _ _ => simp at la
        | nil => exact over H7 s7 hfill _ fun _ _ h => h
      | cons p left3 =>
        cases va with
        | nil => simp at la
        | cons v va =>
        refine ⟨_, rfl, lenL (s7 _ _ eb) rfl ⟨_, rfl, lenL (s7 _ _ ec) rfl ⟨_, _, rfl, rfl, _, rfl, _, _, rfl, rfl, _, rfl, ?_⟩⟩⟩
        unfold fillL at hfill
        by_cases hsp : (here2.length : Int) + (late2.length : Int) < size
        · rw [if_pos hsp] at hfill
          rw [decide_eq_true (by rw [lb, lc]; exact hsp)]
          have L7 := L.on s7
          obtain ⟨va7, ea7, pa7⟩ := L7.la
          have va7e : va7 = v :: va := by
            have := s7 _ _ ea
            rw [this] at ea7
            injection ea7 with z
            injection z with z
            exact z.symm
          subst va7e
          cases pa7 with
          | cons hv7 pa8 =>
          refine ⟨_, fun σ' H' h => h, ?_⟩
          refine ⟨_, rfl, .inl ⟨rfl, _, SqL.of ea7⟩, ll, _, 0, 0, v, rfl, rfl, ea7, by decide, by decide, seqIx (j := 0) (by simp), rfl, ?_⟩
          have L8 := L7.pa (vs := va) pa8
          have t8 : TupLe H7 (upd H7 ll (.lst va)) := (TupLe.refl _).list ea7
          have hv8 := PairAt.st _ _ _ _ t8 hv7
          have t68 : TupLe H6 (upd H7 ll (.lst va)) := (TupLe.same s7).trans t8
          have s8 := L8.same
          have rp : isRow ks p.2 = true := fine2.row p (by simp)
          have sum2 : left3.length + 1 + here2.length + late2.length = left'.length + here'.length + late'.length := by
            rw [List.length_cons] at hsum
            omega
          have appB : Rs.late o p run'.getLast? = false → ∀ H9, Same (upd H7 ll (.lst va)) H9 → ∀ D : Ends, (∀ σ' H', (∃ m', m' < (p :: left3).length ∧ ∃ (left here late : List Pr) (x9 : Option V), m' = left.length ∧ σ' = [some ov, some (.int size), some rv, some (.ref ll), some (.ref lt), some (.ref t), some (.ref lf), some (.ref lr), some (.bl false), x9] ∧ LR H H' ll lt t lf lr left here late found run' ∧ Fine ks (left ++ (here ++ late)) ∧
              left.length + here.length + late.length = left'.length + here'.length + late'.length ∧ fillL o size run'.getLast? left here late = RF) → D.nx σ' H') →
              (tDrop (tBM K "list" rAppend (tVar 4) (tCons (tVar 9) tNil))) D [some ov, some (.int size), some rv, some (.ref ll), some (.ref lt), some (.ref t), some (.ref lf), some (.ref lr), some (.bl false), some v] H9 := by
            intro el H9 s9 D hD
            have L9 := L8.on s9
            obtain ⟨vb9, eb9, pb9⟩ := L9.lb
            have lb9 := pb9.length
            refine ⟨_, rfl, .inl ⟨rfl, _, SqL.of eb9⟩, _, rfl, lt, _, _, rfl, rfl, eb9, szlt (by omega), hD _ _ ?_⟩
            rw [el] at hfill
            refine ⟨left3.length, by simp, left3, here2 ++ [p], late2, _, rfl, rfl, L9.pb (P2.app pb9 (P2.one (PairAt.st _ _ _ _ (TupLe.same s9) hv8))), fine2.perm ?_, by rw [List.length_append, List.length_singleton]; omega, hfill⟩
            rw [List.append_assoc]
            have q : (left3 ++ (here2 ++ ([p] ++ late2))).Perm (left3 ++ ([p] ++ (here2 ++ late2))) := by
              refine List.Perm.append_left _ ?_
              rw [← List.append_assoc, ← List.append_assoc]
              exact List.Perm.append_right _ List.perm_append_comm
            exact q.trans List.perm_middle
          have ee8 : ∃ ve8, upd H7 ll (.lst va) lr = some (.lst ve8) ∧ Paired (PairAt (upd H7 ll (.lst va))) ve8 run' := L8.le
          obtain ⟨ve8, ee8, pe8⟩ := ee8
          refine ne_test (l := lr) rfl ee8 fun H9 s9 => ?_
          have hcase : run'.getLast? = none ∨ ∃ x, run'.getLast? = some x := by cases run'.getLast? with
            | none => exact .inl rfl
            | some x => exact .inr ⟨x, rfl⟩
          rcases hcase with hrl | ⟨x, hrl⟩
          ·
            have er : run' = [] := List.getLast?_eq_none_iff.mp hrl
            subst er
            cases pe8
            exact appB (by rw [hrl]; rfl) H9 s9 _ fun _ _ h => h
          · obtain ⟨r0, er⟩ := List.getLast?_eq_some_iff.mp hrl
            have hve : ve8 ≠ [] := by intro z; rw [z, er] at pe8; have := pe8.length; simp at this
            obtain ⟨w0, wx, ew⟩ : ∃ w0 wx, ve8 = w0 ++ [wx] := ⟨ve8.dropLast, ve8.getLast hve, (List.dropLast_concat_getLast hve).symm⟩
            subst ew
            have hx : PairAt (upd H7 ll (.lst va)) wx x := by rw [er] at pe8; exact P2.last pe8
            have en : (!(w0 ++ [wx]).isEmpty) = true := by cases w0 <;> rfl
            rw [en]
            have rx : isRow ks x.2 = true := hrow x (by rw [er]; simp)
            refine ⟨_, rfl, _, rfl, _, rfl, ixLast (s9 _ _ ee8) ?_⟩
            refine ⟨o, p, x, LstV.same TurnAt.st (s8.trans s9) ho, PairAt.st _ _ _ _ (TupLe.same s9) hv8, PairAt.st _ _ _ _ (TupLe.same s9) hx, cmp_of hcol rp rx, _, rfl, ?_⟩
            cases hb : before o p x with
            | false => exact appB (by rw [hrl]; exact hb) H9 s9 _ fun _ _ h => h
            | true =>
              have L9 := L8.on s9
              obtain ⟨vc9, ec9, pc9⟩ := L9.lc
              have lc9 := pc9.length
              have el : Rs.late o p run'.getLast? = true := by rw [hrl]; exact hb
              rw [el] at hfill
              refine ⟨_, rfl, .inl ⟨rfl, _, SqL.of ec9⟩, _, rfl, t, _, _, rfl, rfl, ec9, szlt (by omega), ?_⟩
              refine ⟨left3.length, by simp, left3, here2, late2 ++ [p], _, rfl, rfl, L9.pc (P2.app pc9 (P2.one (PairAt.st _ _ _ _ (TupLe.same s9) hv8))), fine2.perm ?_, by rw [List.length_append, List.length_singleton]; omega, hfill⟩
              have e : left3 ++ (here2 ++ (late2 ++ [p])) = (left3 ++ (here2 ++ late2)) ++ [p] := by simp
              rw [e]
              exact List.perm_append_comm (l₂ := [p])
        · rw [if_neg hsp] at hfill
          rw [decide_eq_false (by rw [lb, lc]; exact hsp)]
          exact over H7 s7 hfill _ fun _ _ h => h
end Rs

namespace Rs
open PySem PySem.Spec PyProof.Rows L2
abbrev N_need_making : List Str := ["kinds", "order", "size", "rows"]
abbrev P_need_making : List Str := ["kinds", "order", "size", "rows"]
def sp_need_making (K : PySem.W.Frag) : Sp := fun vs H Q E => match vs with
  | [kv, ov, sz, rv] => ∃ ks o size rows, KindsAt H kv ks ∧ GoodKinds ks ∧ LstV TurnAt H ov o ∧ GoodOrd ks o ∧ o.length ≤ 1000 ∧ sz = .int size ∧ 1 ≤ size ∧ size ≤ 24 ∧ LstV RowAt H rv rows ∧ (∀ r ∈ rows, isRow ks r = true) ∧ rows.length ≤ 120 ∧ ∀ H', Same H H' → Q .non H'
  | _ => False
def t_need_making (K : PySem.W.Frag) (E : XK) : TS := (tSeq (tDrop (tCall (sp_need_kinds K) [] E (tCons (tVar 0) tNil)))
  (tSeq (tDrop (tCall (sp_need_order K) [] E (tCons (tVar 0) (tCons (tVar 1) tNil))))
   (tSeq (tIfS (tNot (tTest (tChain xLe xLe (tC (.int 1)) (tVar 2) (tC (.int 24))))) tNever tNext)
    (tDrop (tCall (sp_need_rows K) [] E (tCons (tVar 0) (tCons (tVar 3) (tConsC (.int 120) tNil))))))))
theorem KindsAt.st : Stable KindsAt := fun _ _ _ _ t h => IsTp.mono t h
theorem KindsAt.same {H H' : Hp} {v : V} {ks : List Str} (h : KindsAt H v ks) (s : Same H H') : KindsAt H' v ks := KindsAt.st _ _ _ _ (TupLe.same s) h
theorem pure_need_making {K : PySem.W.Frag} : ∀ vs H Q E, sp_need_making K vs H Q E → t_need_making K E { nx := fun _ H' => Q .non H', rt := Q } (start N_need_making vs) H := by
  intro vs H Q E h
  match vs, h with
  | [kv, ov, sz, rv], h =>
    obtain ⟨ks, o, size, rows, hk, gk, ho, go, hol, rfl, h1, h2, hr, hgood, hlen, k⟩ := h
    refine ⟨_, rfl, ks, hk, gk, fun H1 s1 => ?_⟩
    refine ⟨_, rfl, _, rfl, ks, o, hk.same s1, LstV.same TurnAt.st s1 ho, go, hol, fun H2 s2 => ?_⟩
    have s12 := s1.trans s2
    refine ⟨_, rfl, _, _, rfl, rfl, _, rfl, ?_⟩
    rw [decide_eq_true h1]
    refine ⟨_, _, rfl, rfl, _, rfl, ?_⟩
    rw [decide_eq_true h2]
    refine ⟨_, rfl, _, rfl, ?_⟩
    exact ⟨ks, rows, 120, hk.same s12, LstV.same RowAt.st s12 hr, rfl, gk.le, hgood, by omega, fun H3 s3 => k _ (s12.trans s3)⟩
abbrev N_filled : List Str := ["kinds", "order", "size", "rows", "pairs", "begin"]
abbrev P_filled : List Str := ["kinds", "order", "size", "rows"]
/-- the i-th slice of so many -/
def slc (size : Int) (xs : List Pr) (i : Nat) : List Pr := (xs.drop (i * size.toNat)).take size.toNat
def nslc (size : Int) (n : Nat) : Nat := (((n : Int) + size - 1) / size).toNat
def parts (o : Ord) (size : Int) (xs : List Pr) : List (List Pr) := (List.range (nslc size xs.length)).map fun i => srt o (slc size xs i)
theorem nslc_le {size : Int} {n : Nat} (h1 : 1 ≤ size) : nslc size n ≤ n := by
  unfold nslc
  by_cases h0 : n = 0
  · subst h0
    rw [Int.ediv_eq_zero_of_lt (by omega) (by omega)]
    simp
  · have e : (n : Int) * size - n - size + 1 = (n - 1) * (size - 1) := by
      rw [Int.sub_mul, Int.mul_sub, Int.mul_sub]; omega
    have q := Int.mul_nonneg (a := (n : Int) - 1) (b := size - 1) (by omega) (by omega)
    have := Int.ediv_le_of_le_mul (a := (n : Int) + size - 1) (b := (n : Int)) (c := size) (by omega) (by omega)
    omega
theorem rgc_step {n : Nat} {c : Int} (h1 : 1 ≤ c) (h2 : c ≤ 1000) (hl : n ≤ 1000) : RgC 0 (n : Int) c (nslc c n) := by
  have e := rangeSize_pos (len := (n : Int)) (c := c) h1 (by omega)
  have q0 : 0 ≤ ((n : Int) + c - 1) / c := Int.ediv_nonneg (by omega) (by omega)
  have q1 : ((n : Int) + c - 1) / c ≤ (n : Int) + c - 1 := Int.ediv_le_self _ (by omega)
  refine ⟨by omega, by omega, ?_, by rw [e]; unfold nslc; omega⟩
  unfold Builtin.Range.small
  rw [e]
  simp only [Builtin.Range.rangeFitsLong, Bool.and_eq_true, Bool.or_eq_true, decide_eq_true_eq, beq_iff_eq, show c > 0 by omega, if_true]
  refine ⟨⟨⟨⟨?_, ?_⟩, ?_⟩, ?_⟩, .inr ?_⟩ <;> omega
def sp_filled (K : PySem.W.Frag) : Sp := fun vs H Q E => match vs with
  | [kv, ov, sz, rv] => ∃ ks o size rows, KindsAt H kv ks ∧ GoodKinds ks ∧ LstV TurnAt H ov o ∧ GoodOrd ks o ∧ o.length ≤ 1000 ∧ sz = .int size ∧ 1 ≤ size ∧ size ≤ 24 ∧ LstV RowAt H rv rows ∧ (∀ r ∈ rows, isRow ks r = true) ∧ rows.length ≤ 120 ∧
    ∀ f H', H f = none → Lst (RunAt H []) H' f (parts o size (prs rows)) → Same H H' → Q (.ref f) H'
  | _ => False
def t_filled (K : PySem.W.Frag) (E : XK) : TS := (tSeq (tDrop (tCall (sp_need_making K) [] E (tCons (tVar 0) (tCons (tVar 1) (tCons (tVar 2) (tCons (tVar 3) tNil))))))
  (tSeq (tAsg (tCall (sp_numbered K) [] E (tCons (tVar 3) tNil)) (gName 4))
   (tRet (tLc (iRng3 (tConsC (.int 0) (tCons (tCB1 (xLen K) (tVar 4)) (tCons (tVar 2) tNil)))) (gName 5) tYes (tCall (sp_in_order K) [] E0 (tCons (tCB1 (xList K) (tVar 1)) (tCons (tSl (rSlL K) (tVar 4) (tPart (tVar 5)) (tPart (tOp xAdd (tVar 5) (tVar 2)))) tNil))) [5]))))
theorem slc_len {size : Int} {xs : List Pr} {i : Nat} : (slc size xs i).length ≤ size.toNat := by
  unfold slc
  rw [List.length_take]
  omega
theorem pure_filled {K : PySem.W.Frag} : ∀ vs H Q E, sp_filled K vs H Q E → t_filled K E { nx := fun _ H' => Q .non H', rt := Q } (start N_filled vs) H := by
  intro vs H Q E h
  match vs, h with
  | [kv, ov, sz, rv], h =>
    obtain ⟨ks, o, size, rows, hk, gk, ho, go, hol, rfl, h1, h2, hr, hgood, hlen, k⟩ := h
    refine ⟨_, rfl, _, rfl, _, rfl, _, rfl, ks, o, size, rows, hk, gk, ho, go, hol, rfl, h1, h2, hr, hgood, hlen, fun H1 s1 => ?_⟩
    refine ⟨_, rfl, rows, LstV.same RowAt.st s1 hr, by omega, fun lp H2 hlp L2 s2 => ?_⟩
    obtain ⟨pv, ep, pp⟩ := L2
    have pl := pp.length
    rw [prs_len] at pl
    have s12 := s1.trans s2
    refine ⟨_, rfl, lenL ep rfl ⟨_, rfl, 0, _, size, _, rfl, rgc_step h1 (by omega) (by omega), fun D hD => ?_⟩⟩
    have pf := prs_fine hgood
    have hD0 : H D = none := s12.free hD
    refine lc_it (walk_rangeC) (fun i H' => ∃ vs, H' D = some (.lst vs) ∧ Paired (RunAt H [D] H') vs ((List.range i).map fun i => srt o (slc size (prs rows) i)) ∧ Same H2 H') ⟨[], upd_same, .nil, Rs.Same.new hD⟩ (fun _ _ _ _ => trivial) ?_ ?_
    · rintro i x H4 H3 hi ⟨vs, hd, hp, s3⟩ ⟨rfl, rfl⟩
      have hvl := hp.length
      rw [List.length_map, List.length_range] at hvl
      have nl := nslc_le (n := pv.length) h1
      refine ⟨rfl, lc_yes ?_⟩
      obtain ⟨lo, rfl, L⟩ := ho
      obtain ⟨ov, eo, po⟩ := L
      refine ⟨_, rfl, _, _, rfl, .inl (SqL.of ((s12.trans s3) _ _ eo)), fun q hq => ?_⟩
      have s4 := s3.trans (Rs.Same.new (o := .lst ov) hq)
      refine ⟨_, rfl, _, rfl, _, rfl, _, rfl, _, rfl, _, _, rfl, rfl, _, rfl, _, _, rfl, SqL.of (s4 _ _ ep), fun r hr => ?_⟩
      have s5 := s4.trans (Rs.Same.new (o := .lst (cutV pv (some (0 + (i : Nat) * size)) (some (0 + (i : Nat) * size + size)))) hr)
      have ecut : cutV pv (some (0 + (i : Nat) * size)) (some (0 + (i : Nat) * size + size)) = (pv.drop (i * size.toNat)).take size.toNat := by
        have e1 : (0 + (i : Nat) * size : Int) = ((i * size.toNat : Nat) : Int) := by
          rw [Int.natCast_mul, Int.toNat_of_nonneg (by omega)]; omega
        have e2 : (0 + (i : Nat) * size + size : Int) = ((i * size.toNat + size.toNat : Nat) : Int) := by
          rw [Int.natCast_add, ← e1, Int.toNat_of_nonneg (by omega)]
        rw [e2, e1, cut_mid, Nat.add_sub_cancel_left]
      rw [ecut] at s5 ⊢
      have t5 := TupLe.same s5
      have t25 := TupLe.same (s12.trans s5)
      refine ⟨ks, o, slc size (prs rows) i, ⟨q, rfl, ov, un upd_same hr, Paired.tl TurnAt.st t25 po⟩, ⟨r, rfl, _, upd_same, Paired.tl PairAt.st t5 (P2.take _ (P2.drop _ pp))⟩, go.col, (pf.drop _).take _, ?_, fun f ys H6 nf hys pys uys s6 => ?_⟩
      · have := slc_len (size := size) (xs := prs rows) (i := i)
        show _ ≤ 256
        omega
      have eys : ys = srt o (slc size (prs rows) i) := srt_eq go.col ((pf.drop _).take _) pys uys
      have s26 := s5.trans s6
      have hd5 := s6 _ _ (un (u := .lst ((pv.drop (i * size.toNat)).take size.toNat)) (un (u := .lst ov) hd hq) hr)
      refine ⟨_, hd5, szlt (by omega), _, upd_same, ?_, Rs.Same.mut s26 hD⟩
      rw [List.range_succ, List.map_append]
      have tD : TupLe H6 (upd H6 D (.lst (vs ++ [.ref f]))) := (TupLe.refl _).list hd5
      have nfD : f ≠ D := (ne_of_none (un (un hd hq) hr) nf).symm
      have s26' : Same H3 H6 := ((Rs.Same.new (o := .lst ov) hq).trans (Rs.Same.new hr)).trans s6
      have hp' : Paired (RunAt H [D] (upd H6 D (.lst (vs ++ [.ref f])))) vs ((List.range i).map fun i => srt o (slc size (prs rows) i)) := P2.mono (F := RunAt H [D] H3) (fun _ _ q => (q.keep (TupLe.same s26') fun l _ _ => s26' l).keep tD fun l _ hl o e => up e fun z => hl (by rw [z]; simp)) hp
      refine P2.app hp' (P2.one ⟨f, rfl, (s12.trans s5).free nf, by simpa using nfD, ?_⟩)
      subst eys
      exact hys.off hd5 nfD
    · rintro H3 ⟨vs, hd, hp, s3⟩
      refine k D H3 hD0 ⟨vs, hd, P2.mono (F := RunAt H [D] H3) (fun _ _ q => q.sub (by simp)) ?_⟩ (s12.trans s3)
      rw [pl] at hp
      unfold parts
      rw [prs_len]
      exact hp
end Rs

namespace Rs
open PySem PySem.Spec PyProof.Rows L2
/-! ### a maker, those left, the runs, the run -/
structure EX (K : PySem.W.Frag) (H0 H : Hp) (p lo pr lc a d e : Addr) (o : Ord) (size : Int) (cs : List Cell) (k : Int) (last : Option Pr) (left : List Pr) (found : List (List Pr)) (run : List Pr) : Prop where
  same : Same H0 H
  fr : ∀ x ∈ [p, lc, a, d, e], H0 x = none
  nd : [lc, a, d, e].Nodup
  mm : MakerS K H p lo pr lc o size cs k last
  la : Lst PairAt H a left
  ld : Lst (RunAt H0 [lc, a, d, e]) H d found
  le : Lst PairAt H e run
section
variable {K : PySem.W.Frag} {H0 H H' : Hp} {p lo pr lc a d e : Addr} {o : Ord} {size : Int} {cs cs' : List Cell} {k k' : Int} {last last' : Option Pr} {left left' : List Pr} {found : List (List Pr)} {run run' : List Pr} {vs : List V}
theorem nd4 (h : [lc, a, d, e].Nodup) : ((lc ≠ a ∧ lc ≠ d ∧ lc ≠ e) ∧ (a ≠ d ∧ a ≠ e) ∧ d ≠ e) := by simpa using h
theorem MakerS.nl (M : MakerS K H p lo pr lc o size cs k last) {x : Addr} {ys : List V} (h : H x = some (.lst ys)) : x ≠ p ∧ x ≠ pr := by
  obtain ⟨vl, ⟨dx, e⟩, _⟩ := M.ob
  obtain ⟨dr, e2⟩ := M.room.ob
  exact ⟨ne_of h e (by intro z; cases z), ne_of h e2 (by intro z; cases z)⟩
theorem EX.on (L : EX K H0 H p lo pr lc a d e o size cs k last left found run) (s : Same H H') : EX K H0 H' p lo pr lc a d e o size cs k last left found run := ⟨L.same.trans s, L.fr, L.nd, L.mm.same s, L.la.same PairAt.st s, Runs.same L.ld s, L.le.same PairAt.st s⟩
/-- the maker has done something -/
theorem EX.made (L : EX K H0 H p lo pr lc a d e o size cs k last left found run) (b : But [p, lc] H H') (M : MakerS K H' p lo pr lc o size cs' k' last') : EX K H0 H' p lo pr lc a d e o size cs' k' last' left found run := by
  obtain ⟨⟨q1, q2, q3⟩, ⟨q4, q5⟩, q6⟩ := nd4 L.nd
  have t := L.mm.tup b
  have kl : ∀ {x : Addr} {ys : List V}, H x = some (.lst ys) → x ≠ lc → H' x = some (.lst ys) := fun h n => b _ _ h (nn (L.mm.nl h).1 n)
  have kp : ∀ {x : Addr} {xs : List Pr}, Lst PairAt H x xs → x ≠ lc → Lst PairAt H' x xs := fun ⟨vs, h, p⟩ n => ⟨vs, kl h n, Paired.tl PairAt.st t p⟩
  refine ⟨b.fresh L.same (fun x hx => L.fr x (by simp only [List.mem_cons, List.not_mem_nil, or_false] at hx ⊢; rcases hx with z | z <;> simp [z])), L.fr, L.nd, M, kp L.la q1.symm, ?_, kp L.le q3.symm⟩
  obtain ⟨vs, h, p⟩ := L.ld
  refine ⟨vs, kl h q2.symm, P2.mono (fun v xs q => ?_) p⟩
  obtain ⟨l, e1, e2, e3, e4⟩ := q
  exact ⟨l, e1, e2, e3, kp e4 fun z => e3 (by rw [z]; simp)⟩
/-- a list of its own has changed -/
theorem MakerS.put (M : MakerS K H p lo pr lc o size cs k last) (s0 : Same H0 H) {x : Addr} {ys vs : List V} (h : H x = some (.lst ys)) (n1 : x ≠ lc) (n2 : x ≠ lo) : MakerS K (upd H x (.lst vs)) p lo pr lc o size cs k last := by
  have t : TupLe H (upd H x (.lst vs)) := (TupLe.refl H).list h
  obtain ⟨vl, ob, hv⟩ := M.ob
  obtain ⟨xp, xr⟩ := M.nl h
  exact ⟨⟨vl, ob.keep fun u e => up e xp.symm, OptAt.st _ _ _ _ t hv⟩, ⟨M.room.ob.keep fun u e => up e xr.symm, M.room.ord.keep TurnAt.st t fun u e => up e n2.symm, M.room.cells.keep CellAt.st t fun u e => up e n1.symm, M.room.ne⟩, M.ne⟩
theorem EX.pa (L : EX K H0 H p lo pr lc a d e o size cs k last left found run) (n : a ≠ lo) (q : Paired (PairAt H) vs left') : EX K H0 (upd H a (.lst vs)) p lo pr lc a d e o size cs k last left' found run := by
  obtain ⟨⟨q1, q2, q3⟩, ⟨q4, q5⟩, q6⟩ := nd4 L.nd
  obtain ⟨ys, hx, _⟩ := L.la
  exact ⟨Rs.Same.mut L.same (L.fr _ (by simp)), L.fr, L.nd, L.mm.put L.same hx q1.symm n, Lst.on hx q, Runs.put L.ld hx (by simp) q4.symm, L.le.off hx q5.symm⟩
theorem EX.pe (L : EX K H0 H p lo pr lc a d e o size cs k last left found run) (n : e ≠ lo) (q : Paired (PairAt H) vs run') : EX K H0 (upd H e (.lst vs)) p lo pr lc a d e o size cs k last left found run' := by
  obtain ⟨⟨q1, q2, q3⟩, ⟨q4, q5⟩, q6⟩ := nd4 L.nd
  obtain ⟨ys, hx, _⟩ := L.le
  exact ⟨Rs.Same.mut L.same (L.fr _ (by simp)), L.fr, L.nd, L.mm.put L.same hx q3.symm n, L.la.off hx q5, Runs.put L.ld hx (by simp) q6, Lst.on hx q⟩
end
abbrev N_exchanged : List Str := ["kinds", "order", "size", "rows", "maker", "left", "found", "run", "pair"]
abbrev P_exchanged : List Str := ["kinds", "order", "size", "rows"]
def sp_exchanged (K : PySem.W.Frag) : Sp := fun vs H Q E => match vs with
  | [kv, ov, sz, rv] => ∃ ks o size rows, KindsAt H kv ks ∧ GoodKinds ks ∧ LstV TurnAt H ov o ∧ GoodOrd ks o ∧ o.length ≤ 1000 ∧ sz = .int size ∧ 1 ≤ size ∧ size ≤ 24 ∧ LstV RowAt H rv rows ∧ (∀ r ∈ rows, isRow ks r = true) ∧ rows.length ≤ 120 ∧
    ∀ f H', H f = none → Lst (RunAt H []) H' f (runsOf o size (prs rows)) → Same H H' → Q (.ref f) H'
  | _ => False
def t_exchanged (K : PySem.W.Frag) (E : XK) : TS := (tSeq (tDrop (tCall (sp_need_making K) [] E (tCons (tVar 0) (tCons (tVar 1) (tCons (tVar 2) (tCons (tVar 3) tNil))))))
  (tSeq (tAsg (tMake (He.ga K "Maker") (sp_Maker___init__ K) [] E (tCons (tCB1 (xList K) (tVar 1)) (tCons (tVar 2) tNil))) (gName 4))
   (tSeq (tAsg (tCall (sp_numbered K) [] E (tCons (tVar 3) tNil)) (gName 5))
    (tSeq (tAsg (tLst tNil) (gName 6))
     (tSeq (tWhile (tOr (tTest (tOp (xNeE K) (tVar 5) (tLst tNil))) (tTest (tOpC xGt (tMeth (He.ga K "Room") "many_in" (sp_Room_many_in K) [] E (tFl K (tVar 4) "room") tNil) (.int 0)))) 
        (tSeq (tAsg (tLst tNil) (gName 7))
        (tSeq (tAsg (tTup (tConsC (.int 0) (tConsC .non tNil))) (gName 8))
         (tSeq (tWhile (tTest (tOpC rNotN (tVar 8) .non)) 
            (tSeq (tWhile (tAnd (tTest (tOp (xNeE K) (tVar 5) (tLst tNil))) (tB (tMeth (He.ga K "Maker") "has_space" (sp_Maker_has_space K) [] E (tVar 4) tNil))) (tDrop (tMeth (He.ga K "Maker") "come" (sp_Maker_come K) [] E (tVar 4) (tCons (tBM K "list" rPopAt (tVar 5) (tConsC (.int 0) tNil)) tNil))))
            (tSeq (tAsg (tMeth (He.ga K "Maker") "goes" (sp_Maker_goes K) [] E (tVar 4) tNil) (gName 8))
             (tIfS (tTest (tOpC rNotN (tVar 8) .non)) (tDrop (tBM K "list" rAppend (tVar 7) (tCons (tVar 8) tNil))) tNext))))
          (tSeq (tDrop (tBM K "list" rAppend (tVar 6) (tCons (tVar 7) tNil)))
           (tDrop (tMeth (He.ga K "Maker") "turn" (sp_Maker_turn K) [] E (tVar 4) tNil)))))))
      (tRet (tVar 6)))))))
theorem pure_exchanged {K : PySem.W.Frag} (T : TxtMaker K) : ∀ vs H Q E, sp_exchanged K vs H Q E → t_exchanged K E { nx := fun _ H' => Q .non H', rt := Q } (start N_exchanged vs) H := by
  intro vs H Q E h
  match vs, h with
  | [kv, ov, sz, rv], h =>
    obtain ⟨ks, o, size, rows, hk, gk, ho, go, hol, rfl, hs1, hs2, hr, hgood, hlen, k⟩ := h
    refine ⟨_, rfl, _, rfl, _, rfl, _, rfl, ks, o, size, rows, hk, gk, ho, go, hol, rfl, hs1, hs2, hr, hgood, hlen, fun H1 s1 => ?_⟩
    have hcol := go.col
    obtain ⟨lq, rfl, oq, eq, pq⟩ := LstV.same TurnAt.st s1 ho
    -- the maker
    refine ⟨_, rfl, _, _, rfl, .inl (SqL.of eq), fun lo hlo => ⟨_, rfl, fun p dx hp hdx ndx => ?_⟩⟩
    have sA : Same H1 (upd H1 lo (.lst oq)) := Rs.Same.new hlo
    have Lo : Lst TurnAt (upd H1 lo (.lst oq)) lo o := ⟨oq, upd_same, Paired.tl TurnAt.st (TupLe.same sA) pq⟩
    have sB : Same (upd H1 lo (.lst oq)) (upd (upd (upd H1 lo (.lst oq)) dx (.own p)) p (.ins (He.ga K "Maker") dx [])) := (Rs.Same.new hdx).trans (Rs.Same.new (by rw [upd_ne ndx.symm]; exact hp))
    refine ⟨p, dx, lo, o, size, rfl, rfl, rfl, upd_same, Lo.same TurnAt.st sB, fun pr lc H2 M hpr hlc k2 => ⟨rfl, ?_⟩⟩
    have sC : Same (upd H1 lo (.lst oq)) H2 := k2.fresh sB (fun x hx => by rw [List.mem_singleton] at hx; rw [hx]; exact hp)
    have s2 : Same H H2 := (s1.trans sA).trans sC
    have fp : H p = none := (s1.trans sA).free hp
    have flc : H lc = none := ((s1.trans sA).trans sB).free hlc
    have nlo : H lo = none := s1.free hlo
    clear sB k2 Lo
    -- the pairs, the runs
    refine ⟨_, rfl, rows, LstV.same RowAt.st s2 hr, by omega, fun ll H3 hll L1 s3 => ?_⟩
    refine ⟨sz0, fun lf hlf => ?_⟩
    have M3 := (M.same s3).same (Rs.Same.new (o := .lst []) hlf)
    have s4 : Same H (upd H3 lf (.lst [])) := (s2.trans s3).trans (Rs.Same.new hlf)
    have L4 := L1.same PairAt.st (Rs.Same.new (o := .lst []) hlf)
    have fll : H ll = none := s2.free hll
    have flf : H lf = none := (s2.trans s3).free hlf
    have elo : H2 lo = some (.lst oq) := sC _ _ upd_same
    obtain ⟨cv, ec, _⟩ := M.room.cells
    have n1 : ll ≠ lo := (ne_of_none elo hll).symm
    have n2 : lf ≠ lo := (ne_of_none (s3 _ _ elo) hlf).symm
    have n3 : lc ≠ ll := ne_of_none ec hll
    have n4 : lc ≠ lf := ne_of_none (s3 _ _ ec) hlf
    have n5 : ll ≠ lf := by obtain ⟨_, e, _⟩ := L1; exact ne_of_none e hlf
    have pf := prs_fine hgood
    have pl := prs_len (rows := rows)
    generalize hR : runsOf o size (prs rows) = R at k
    refine ⟨fun n σ H' => ∃ (left late : List Pr) (found : List (List Pr)) (cs : List Cell) (kk : Int) (x7 x8 : Option V), σ = [some kv, some (.ref lq), some (.int size), some rv, some (.ref p), some (.ref ll), some (.ref lf), x7, x8] ∧ Same H H' ∧ MakerS K H' p lo pr lc o size cs kk none ∧ Lst PairAt H' ll left ∧ Lst (RunAt H [lc, ll, lf]) H' lf found ∧ cs.Perm (cells kk late []) ∧ IsHeap (cless o) c0 cs ∧
        Fine ks (left ++ late) ∧ left.length + late.length < n ∧ left.length + late.length ≤ 120 ∧ found.length + n ≤ 200 ∧ outer o size n left late found = R,
      ⟨(prs rows).length + 1, prs rows, [], [], [], 0, none, none, rfl, s4, M3, L4, ⟨[], upd_same, .nil⟩, .nil, fun i h0 h1 => absurd h1 (Nat.not_lt_zero _), by rw [List.append_nil]; exact pf, by simp, by rw [List.length_nil]; omega, by rw [List.length_nil]; omega, hR⟩, ?_⟩
    clear M3 s4 L4 L1 hll hlf s3 M
    rintro n σ H4 ⟨left, late, found, cs, kk, x7, x8, rfl, s, M, L1, Lf, hcs, hheap, fine, hn, hle, hfn, hout⟩
    obtain ⟨m, rfl⟩ : ∃ m, n = m + 1 := ⟨n - 1, by omega⟩
    have hcl := hcs.length_eq
    rw [cells_len, List.length_nil] at hcl
    -- the test
    have test : ∀ Q : Bool → Hp → Prop, (∀ H', Same H4 H' → Q (decide (¬ (left = [] ∧ late = []))) H') → (tOr (tTest (tOp (xNeE K) (tVar 5) (tLst tNil))) (tTest (tOpC xGt (tMeth (He.ga K "Room") "many_in" (sp_Room_many_in K) [] E (tFl K (tVar 4) "room") tNil) (.int 0))) : TT)
        [some kv, some (.ref lq), some (.int size), some rv, some (.ref p), some (.ref ll), some (.ref lf), x7, x8] H4 Q := fun Q q => by
      obtain ⟨va, ea, pa⟩ := L1
      have la := pa.length
      refine or_test (l := ll) rfl ea (fun ne H' s' => ?_) fun e1 H5 s5 => ?_
      · have e : decide (¬ (left = [] ∧ late = [])) = true := decide_eq_true fun z => ne (by rw [z.1] at la; exact List.length_eq_zero_iff.mp la)
        rw [← e]
        exact q _ s'
      · have hq := q _ s5
        rw [e1] at la
        have l0 : left = [] := List.length_eq_zero_iff.mp la.symm
        have M5 := M.same s5
        obtain ⟨vl, ob, _⟩ := M5.ob
        obtain ⟨dr, hob⟩ := M5.room.ob
        refine ⟨_, rfl, g_Maker_room T ob ⟨pr, dr, _, rfl, hob, no_Room_many_in, pr, lo, lc, o, cs, rfl, M5.room, _, _, rfl, rfl, _, rfl, ?_⟩⟩
        have e2 : decide (¬ (left = [] ∧ late = [])) = decide ((0 : Int) < (cs.length : Int)) := by
          refine decide_eq_decide.mpr ⟨fun z => ?_, fun z y => ?_⟩
          · have : late ≠ [] := fun y => z ⟨l0, y⟩
            have := List.length_pos_iff.mpr this
            omega
          · rw [y.2, List.length_nil] at hcl
            omega
        rw [← e2]
        exact hq
    refine test _ fun H5 s5 => ?_
    dsimp only
    unfold outer at hout
    by_cases hne : left = [] ∧ late = []
    · have eD : decide (¬ (left = [] ∧ late = [])) = false := by rw [decide_eq_false_iff_not]; exact fun z => z hne
      rw [eD]
      rw [if_pos hne] at hout
      subst hout
      exact ⟨_, rfl, k lf _ flf (Runs.sub (Runs.same Lf s5) (by simp)) (s.trans s5)⟩
    have eD : decide (¬ (left = [] ∧ late = [])) = true := decide_eq_true hne
    rw [eD]
    rw [if_neg hne] at hout
    have fine0 : Fine ks (left ++ (late ++ [])) := by rw [List.append_nil]; exact fine
    have kp := inner_keeps (ks := ks) (o := o) (size := size) (left.length + late.length + 1) left late [] [] fine0 (by simp) (by simp)
    have some_ := fill_some o hs1 hne
    generalize hR2 : inner o size (left.length + late.length + 1) left late [] [] = R2 at hout kp
    refine ⟨_, fun σ' H' h => h, ?_⟩
    refine ⟨sz0, fun lr hlr => ?_⟩
    have sD : Same H4 (upd H5 lr (.lst [])) := s5.trans (Rs.Same.new hlr)
    refine ⟨szle (by show 2 ≤ 100000; decide), fun t ht => ?_⟩
    have sE : Same H4 (upd (upd H5 lr (.lst [])) t (.tup [.int 0, .non])) := sD.trans (Rs.Same.new ht)
    have flr : H lr = none := (s.trans s5).free hlr
    have Lf2 : Lst (RunAt H [lr, lc, ll, lf]) (upd (upd H5 lr (.lst [])) t (.tup [.int 0, .non])) lf found := Runs.same (Runs.new (Runs.same Lf s5) hlr) ((Rs.Same.new hlr).trans (Rs.Same.new ht))
    have nd : [lc, ll, lf, lr].Nodup := by
      obtain ⟨va, ea, _⟩ := L1
      obtain ⟨vf, ef, _⟩ := Lf
      obtain ⟨vc, ec, _⟩ := M.room.cells
      have a1 : ll ≠ lr := ne_of_none (s5 _ _ ea) hlr
      have a2 : lf ≠ lr := ne_of_none (s5 _ _ ef) hlr
      have a3 : lc ≠ lr := ne_of_none (s5 _ _ ec) hlr
      simp only [List.nodup_cons, List.mem_cons, List.not_mem_nil, or_false, not_or, not_false_eq_true, and_true, List.nodup_nil]
      exact ⟨⟨n3, n4, a3⟩, ⟨n5, a1⟩, a2⟩
    have nro : lr ≠ lo := by
      obtain ⟨ov, e, _⟩ := M.room.ord
      exact (ne_of_none (s5 _ _ e) hlr).symm
    have EX0 : EX K H (upd (upd H5 lr (.lst [])) t (.tup [.int 0, .non])) p lo pr lc ll lf lr o size cs kk none left found [] := by
      refine ⟨s.trans sE, fun x hx => ?_, nd, M.same sE, L1.same PairAt.st sE, Runs.sub Lf2 ?_, ⟨[], un upd_same ht, .nil⟩⟩
      · simp only [List.mem_cons, List.not_mem_nil, or_false] at hx
        rcases hx with rfl | rfl | rfl | rfl | rfl
        · exact fp
        · exact flc
        · exact fll
        · exact flf
        · exact flr
      · intro y hy
        simp only [List.mem_cons, List.not_mem_nil, or_false] at hy ⊢
        rcases hy with z | z | z | z <;> simp [z]
    refine ⟨fun k' σ H' => ∃ (left here late : List Pr) (run : List Pr) (cs : List Cell) (w : V), σ = [some kv, some (.ref lq), some (.int size), some rv, some (.ref p), some (.ref ll), some (.ref lf), some (.ref lr), some w] ∧ EX K H H' p lo pr lc ll lf lr o size cs kk run.getLast? left found run ∧ cs.Perm (cells kk here late) ∧ IsHeap (cless o) c0 cs ∧ Fine ks (left ++ (here ++ late)) ∧ (∀ q ∈ run, isRow ks q.2 = true) ∧
        left.length + here.length + late.length + run.length ≤ 120 ∧ (w = .non → here = [] ∧ (left, late, run) = R2) ∧ (w ≠ .non → left.length + here.length + late.length < k' ∧ inner o size k' left here late run = R2),
      ⟨left.length + late.length + 1, left, late, [], [], cs, _, rfl, EX0, hcs, hheap, fine0, by simp, by rw [List.length_nil]; omega, fun z => (by cases z), fun _ => ⟨by rw [List.length_nil]; omega, hR2⟩⟩, ?_⟩
    clear EX0 Lf2 sD sE L1 Lf fine0 test M hcs hheap hcl
    rintro k' σ H6 ⟨left', here', late', run', cs', w, rfl, L, hcs, hheap, fine', hrow, htot, hov, hno⟩
    refine ⟨_, rfl, rfl, _, rfl, ?_⟩
    have hcl := hcs.length_eq
    rw [cells_len] at hcl
    by_cases hw : w = .non
    · subst hw
      have ew : (!decide (V.non = V.non)) = false := rfl
      rw [ew]
      obtain ⟨rfl, e2⟩ := hov rfl
      subst e2
      obtain ⟨_, k2, _, _, k5⟩ := kp
      have k6 := k5 some_
      dsimp only at k2 k6 hout
      obtain ⟨vf, ef, pf'⟩ := L.ld
      have lf' := pf'.length
      obtain ⟨⟨q1, q2, q3⟩, ⟨q4, q5⟩, q6⟩ := nd4 L.nd
      refine ⟨_, rfl, .inl ⟨rfl, _, SqL.of ef⟩, _, rfl, lf, _, _, rfl, rfl, ef, szlt (by omega), ?_⟩
      have M7 := L.mm.put (vs := vf ++ [.ref lr]) L.same ef q2.symm n2
      have Lf7 : Lst (RunAt H [lc, ll, lf]) (upd H6 lf (.lst (vf ++ [.ref lr]))) lf (found ++ [run']) := Runs.add ef (P2.mono (fun _ _ q => q.sub (by intro y hy; simp only [List.mem_cons, List.not_mem_nil, or_false] at hy ⊢; rcases hy with z | z | z <;> simp [z])) pf') (by simp) q6.symm flr (by simp only [List.mem_cons, List.not_mem_nil, or_false, not_or]; exact ⟨q3.symm, q5.symm, q6.symm⟩) L.le
      have L7 := L.la.off (u := .lst (vf ++ [.ref lr])) ef q4
      have s7 : Same H (upd H6 lf (.lst (vf ++ [.ref lr]))) := Rs.Same.mut L.same flf
      obtain ⟨vl7, ⟨dx7, ob7⟩, _⟩ := M7.ob
      refine ⟨_, rfl, p, dx7, _, rfl, ob7, no_Maker_turn, p, lo, pr, lc, o, size, cs', kk, _, rfl, M7, fun H8 M8 k8 => ?_⟩
      have t8 : TupLe (upd H6 lf (.lst (vf ++ [.ref lr]))) H8 := M7.tup (k8.wide fun x hx => by rw [List.mem_singleton] at hx; rw [hx]; simp)
      have kl : ∀ {x : Addr} {ys : List V}, upd H6 lf (.lst (vf ++ [.ref lr])) x = some (.lst ys) → H8 x = some (.lst ys) := fun h => k8 _ _ h (ne1 (M7.nl h).1)
      have s8 : Same H H8 := k8.fresh s7 (fun x hx => by rw [List.mem_singleton] at hx; rw [hx]; exact fp)
      obtain ⟨a8, b8, c8⟩ := L7
      obtain ⟨d8, e8, f8⟩ := Lf7
      refine ⟨m, by omega, left', late', found ++ [run'], cs', kk + 1, _, _, rfl, s8, M8, ⟨a8, kl b8, Paired.tl PairAt.st t8 c8⟩, ⟨d8, kl e8, P2.mono (fun v xs q => ?_) f8⟩, by rw [← cells_turn]; exact hcs, hheap, fine', ?_, ?_, ?_, hout⟩
      · obtain ⟨l, g1, g2, g3, g4⟩ := q
        obtain ⟨ys, g5, g6⟩ := g4
        exact ⟨l, g1, g2, g3, ys, kl g5, Paired.tl PairAt.st t8 g6⟩
      · simp only [List.length_nil] at k2 k6; omega
      · simp only [List.length_nil] at k2 k6; omega
      · rw [List.length_append, List.length_singleton]; omega
    have ew : (!decide (w = V.non)) = true := by rw [decide_eq_false hw]; rfl
    rw [ew]
    obtain ⟨hk, hin⟩ := hno hw
    obtain ⟨k1, rfl⟩ : ∃ k1, k' = k1 + 1 := ⟨k' - 1, by omega⟩
    unfold inner at hin
    have pm := fill_perm o size run'.getLast? left' here' late'
    generalize hRF : fillL o size run'.getLast? left' here' late' = RF at hin pm
    refine ⟨_, fun σ' H' h => h, ?_⟩
    refine ⟨fun j σ H' => ∃ (left here late : List Pr) (cs : List Cell), j = left.length ∧ σ = [some kv, some (.ref lq), some (.int size), some rv, some (.ref p), some (.ref ll), some (.ref lf), some (.ref lr), some w] ∧ EX K H H' p lo pr lc ll lf lr o size cs kk run'.getLast? left found run' ∧ cs.Perm (cells kk here late) ∧ IsHeap (cless o) c0 cs ∧ Fine ks (left ++ (here ++ late)) ∧
        left.length + here.length + late.length = left'.length + here'.length + late'.length ∧ fillL o size run'.getLast? left here late = RF,
      ⟨_, left', here', late', cs', rfl, rfl, L, hcs, hheap, fine', rfl, hRF⟩, ?_⟩
    clear L fine' hov hno hcs hheap hcl cs'
    rintro j σ H7 ⟨left2, here2, late2, cs2, rfl, rfl, L, hcs, hheap, fine2, hsum, hfill⟩
    have hcl := hcs.length_eq
    rw [cells_len] at hcl
    have hcr := cells_row hcs fine2.right.row
    obtain ⟨va, ea, pa⟩ := L.la
    have la := pa.length
    -- no more come in
    have over : ∀ H8, Same H7 H8 → (left2, here2, late2) = RF → ∀ D : Ends, (∀ σ' H', (∃ k'', k'' < k1 + 1 ∧ ∃ (left here late : List Pr) (run : List Pr) (cs : List Cell) (w : V), σ' = [some kv, some (.ref lq), some (.int size), some rv, some (.ref p), some (.ref ll), some (.ref lf), some (.ref lr), some w] ∧ EX K H H' p lo pr lc ll lf lr o size cs kk run.getLast? left found run ∧ cs.Perm (cells kk here late) ∧ IsHeap (cless o) c0 cs ∧ Fine ks (left ++ (here ++ late)) ∧ (∀ q ∈ run, isRow ks q.2 = true) ∧
        left.length + here.length + late.length + run.length ≤ 120 ∧ (w = .non → here = [] ∧ (left, late, run) = R2) ∧ (w ≠ .non → left.length + here.length + late.length < k'' ∧ inner o size k'' left here late run = R2)) → D.nx σ' H') →
        ((tSeq (tAsg (tMeth (He.ga K "Maker") "goes" (sp_Maker_goes K) [] E (tVar 4) tNil) (gName 8)) (tIfS (tTest (tOpC rNotN (tVar 8) .non)) (tDrop (tBM K "list" rAppend (tVar 7) (tCons (tVar 8) tNil))) tNext)) : TS) D
        [some kv, some (.ref lq), some (.int size), some rv, some (.ref p), some (.ref ll), some (.ref lf), some (.ref lr), some w] H8 := by
      intro H8 s8 eRF D hD
      subst eRF
      dsimp only at hin
      have L8 := L.on s8
      obtain ⟨vl8, ⟨dx8, ob8⟩, _⟩ := L8.mm.ob
      refine ⟨_, rfl, p, dx8, _, rfl, ob8, no_Maker_goes, p, lo, pr, lc, o, size, cs2, kk, _, ks, rfl, L8.mm, hcol, hcr, hheap, by omega, fun hnone H9 s9 => ?_, fun hpos hrun cs3 v H9 M9 hheap9 hp9 hv9 k9 => ?_⟩
      · refine ⟨_, rfl, rfl, _, rfl, ?_⟩
        have hh : here2 = [] := by
          by_cases hh : here2 = []
          · exact hh
          · obtain ⟨g1, g2⟩ := cells_min hcol fine2.right hcs hheap hh
            rcases hnone with z | z
            · rw [z] at g1; simp at g1
            · rw [g2] at z; exact absurd rfl z
        rw [if_pos hh] at hin
        exact hD _ _ ⟨0, by omega, left2, here2, late2, run', cs2, .non, rfl, L8.on s9, hcs, hheap, fine2, hrow, by omega, fun _ => ⟨hh, hin⟩, fun z => absurd rfl z⟩
      · have hh : here2 ≠ [] := by
          intro hh
          subst hh
          rcases cells_none hcs with z | z
          · rw [z] at hpos; simp at hpos
          · exact z hrun
        rw [if_neg hh] at hin
        obtain ⟨_, g2⟩ := cells_min hcol fine2.right hcs hheap hh
        rw [g2] at M9 hp9 hv9
        dsimp only at M9 hv9
        have hvn : v ≠ .non := by
          obtain ⟨w9, ⟨a9, rfl, _⟩, _⟩ := hv9
          intro z; cases z
        refine ⟨_, rfl, rfl, _, rfl, ?_⟩
        have ev : (!decide (v = V.non)) = true := by rw [decide_eq_false hvn]; rfl
        rw [ev]
        have L9 := L8.made k9 M9
        obtain ⟨ve, ee, pe⟩ := L9.le
        have le := pe.length
        refine ⟨_, rfl, .inl ⟨rfl, _, SqL.of ee⟩, _, rfl, lr, _, _, rfl, rfl, ee, szlt (by omega), hD _ _ ?_⟩
        have L10 := L9.pe nro (P2.app pe (P2.one hv9))
        have hm := mn_mem o hh
        have ol := (out_perm fine2.right.left.nd hm).length_eq
        rw [List.length_cons] at ol
        refine ⟨k1, by omega, left2, outN (mn o here2).1 here2, late2, run' ++ [mn o here2], cs3, v, rfl, ?_, cells_take fine2.right hcs hh hp9, hheap9, ?_, ?_, ?_, fun z => absurd z hvn, fun _ => ⟨by omega, hin⟩⟩
        · rw [List.getLast?_append]
          exact L10
        · exact fine2.sub (List.Sublist.append (.refl _) (List.Sublist.append List.filter_sublist (.refl _)))
        · intro q hq
          rcases List.mem_append.mp hq with z | z
          · exact hrow q z
          · rw [List.mem_singleton.mp z]; exact fine2.right.left.row _ hm
        · rw [List.length_append, List.length_singleton]; omega
    refine ne_test (l := ll) rfl ea fun H8 s8 => ?_
    cases left2 with
    | nil =>
      cases va with
      | cons _ _ => simp at la
      | nil => exact over H8 s8 hfill _ fun _ _ h => h
    | cons q left3 =>
      cases va with
      | nil => simp at la
      | cons v va =>
      have L8 := L.on s8
      obtain ⟨vl8, ⟨dx8, ob8⟩, _⟩ := L8.mm.ob
      refine ⟨_, rfl, p, dx8, _, rfl, ob8, no_Maker_has_space, p, lo, pr, lc, o, size, cs2, kk, _, rfl, L8.mm, _, rfl, ?_⟩
      unfold fillL at hfill
      by_cases hsp : (here2.length : Int) + (late2.length : Int) < size
      · rw [if_pos hsp] at hfill
        rw [decide_eq_true (by omega)]
        cases pa with
        | cons hv pa =>
        have ea8 := s8 _ _ ea
        have t8 := TupLe.same s8
        have L9 := L8.pa (vs := va) n1 (Paired.tl PairAt.st t8 pa)
        have t9 : TupLe H8 (upd H8 ll (.lst va)) := (TupLe.refl _).list ea8
        refine ⟨_, fun σ' H' h => h, ?_⟩
        refine ⟨_, rfl, p, dx8, _, rfl, ob8, no_Maker_come, _, rfl, .inl ⟨rfl, _, SqL.of ea8⟩, ll, _, 0, 0, v, rfl, rfl, ea8, by decide, by decide, seqIx (j := 0) (by simp), rfl, ?_⟩
        have rq : isRow ks q.2 = true := fine2.row q (by simp)
        refine ⟨p, lo, pr, lc, o, size, cs2, kk, _, ks, q, rfl, L9.mm, PairAt.st _ _ _ _ (t8.trans t9) hv, hcol, rq, hcr, fun l hl => hrow l (List.mem_of_getLast? hl), hheap, by omega, fun cs3 H10 M10 hheap10 p10 k10 => ?_⟩
        have L10 := L9.made (k10.wide fun x hx => by rw [List.mem_singleton] at hx; rw [hx]; simp) M10
        have hc := cells_come hcs p10
        have sum2 : left3.length + 1 + here2.length + late2.length = left'.length + here'.length + late'.length := by
          rw [List.length_cons] at hsum
          omega
        cases el : Rs.late o q run'.getLast? with
        | true =>
          rw [el] at hfill hc
          refine ⟨left3.length, by simp, left3, here2, late2 ++ [q], cs3, rfl, rfl, L10, hc, hheap10, fine2.perm ?_, by rw [List.length_append, List.length_singleton]; omega, hfill⟩
          have e : left3 ++ (here2 ++ (late2 ++ [q])) = (left3 ++ (here2 ++ late2)) ++ [q] := by simp
          rw [e]
          exact List.perm_append_comm (l₂ := [q])
        | false =>
          rw [el] at hfill hc
          refine ⟨left3.length, by simp, left3, here2 ++ [q], late2, cs3, rfl, rfl, L10, hc, hheap10, fine2.perm ?_, by rw [List.length_append, List.length_singleton]; omega, hfill⟩
          rw [List.append_assoc]
          have z : (left3 ++ (here2 ++ ([q] ++ late2))).Perm (left3 ++ ([q] ++ (here2 ++ late2))) := by
            refine List.Perm.append_left _ ?_
            rw [← List.append_assoc, ← List.append_assoc]
            exact List.Perm.append_right _ List.perm_append_comm
          exact z.trans List.perm_middle
      · rw [if_neg hsp] at hfill
        rw [decide_eq_false (by omega)]
        exact over H8 s8 hfill _ fun _ _ h => h
end Rs

namespace Rs
open PySem PySem.Spec PyProof.Rows L2
abbrev N_law_alike : List Str := ["_law_found", "_law_due", "_law_k"]
abbrev P_law_alike : List Str := ["_law_found", "_law_due"]
def spr_law_alike (K : PySem.W.Frag) (n : Nat) : Sp := fun vs H Q E => match vs with
  | [x, y] => ∃ d, okD n d ∧ Dp K H x d ∧ Dp K H y d ∧ Q (.bl true) H
  | _ => False
abbrev sp_law_alike (K : PySem.W.Frag) : Sp := spr_law_alike K 12
theorem len_law_alike (K : PySem.W.Frag) : ∀ d vs H Q E, spr_law_alike K d vs H Q E → vs.length = 2 := fun d vs H Q E h => by
  unfold spr_law_alike at h
  match vs, h with
  | [_, _], _ => rfl
theorem no_law_alike (K : PySem.W.Frag) : ∀ vs H Q E, ¬ spr_law_alike K 0 vs H Q E := fun vs H Q E h => by
  unfold spr_law_alike at h
  match vs, h with
  | [_, _], ⟨d, h, _⟩ => exact h
def t_law_alike (K : PySem.W.Frag) (sp : Sp) (E : XK) : TS := (tSeq (tIfS (tTest (tOpC rIsN (tVar 1) .non)) (tRet (tOpC rIsN (tVar 0) .non)) tNext)
  (tSeq (tIfS (tB (tIsi K "bool" (tVar 1))) (tRet (tAndV (tIsi K "bool" (tVar 0)) (tOp rEq (tVar 0) (tVar 1)))) tNext)
   (tSeq (tIfS (tB (tIsi K "int" (tVar 1))) (tRet (tAndV (tIsi K "int" (tVar 0)) (tAndV (tNotV (tIsi K "bool" (tVar 0))) (tOp rEq (tVar 0) (tVar 1))))) tNext)
    (tSeq (tIfS (tB (tIsi K "str" (tVar 1))) (tRet (tAndV (tIsi K "str" (tVar 0)) (tOp rEq (tVar 0) (tVar 1)))) tNext)
     (tSeq (tIfS (tOr (tTest (tOp rNe (tIsi K "tuple" (tVar 1)) (tIsi K "tuple" (tVar 0)))) (tTest (tOp rNe (tIsi K "list" (tVar 1)) (tIsi K "list" (tVar 0))))) (tRet (tC (.bl false))) tNext)
      (tSeq (tIfS (tTest (tOp rNe (tCB1 (xLen K) (tVar 0)) (tCB1 (xLen K) (tVar 1)))) (tRet (tC (.bl false))) tNext)
       (tSeq (tFor (iRng1 (tCons (tCB1 (xLen K) (tVar 1)) tNil)) (gName 2) 
          (tIfS (tNot (tB (tCall sp [] E (tCons (tOp (rIx K) (tVar 0) (tVar 2)) (tCons (tOp (rIx K) (tVar 1) (tVar 2)) tNil))))) (tRet (tC (.bl false))) tNext))
        (tRet (tC (.bl true))))))))))
theorem tyL {K : PySem.W.Frag} {H : Hp} {a : Addr} {xs : List V} (h : SqL K H a xs) : TyX K H (.ref a) (.type "list") := by
  rcases h with (h | ⟨o, h⟩) | ⟨o, its, n, h, c, _⟩
  · exact .base (.lst h)
  · exact .base (.frz h)
  · exact .kList h c
theorem tyT {K : PySem.W.Frag} {H : Hp} {a : Addr} {xs : List V} (h : SqT K H a xs) : TyX K H (.ref a) (.type "tuple") := by
  rcases h with (h | ⟨o, h⟩) | ⟨o, its, n, h, c, _⟩
  · exact .base (.tup h)
  · exact .fTuple h
  · exact .kTuple h c
theorem dpAll_len {K : PySem.W.Frag} {H : Hp} : ∀ {vs : List V} {ds : List PyData}, DpAll K H vs ds → vs.length = ds.length
  | _, _, .nil => rfl
  | _, _, .cons _ t => by rw [List.length_cons, List.length_cons, dpAll_len t]
theorem dpAll_get {K : PySem.W.Frag} {H : Hp} : ∀ {vs : List V} {ds : List PyData}, DpAll K H vs ds → ∀ {i : Nat} {d : PyData}, ds[i]? = some d → ∃ v, vs[i]? = some v ∧ Dp K H v d
  | _, _, .nil, _, _, e => by simp at e
  | _, _, .cons h t, 0, d, e => by simp at e; subst e; exact ⟨_, rfl, h⟩
  | _, _, .cons h t, i + 1, d, e => by simpa using dpAll_get t (i := i) (by simpa using e)
theorem pure_law_alike {K : PySem.W.Frag} (d : Nat) : ∀ vs H Q E, spr_law_alike K (d + 1) vs H Q E → t_law_alike K (spr_law_alike K d) E { nx := fun _ H' => Q .non H', rt := Q } (start N_law_alike vs) H := by
  intro vs H Q E h
  unfold spr_law_alike at h
  match vs, h with
  | [x, y], ⟨z, ok, hx, hy, k⟩ =>
    -- two rows of items
    have tail : ∀ (a b : Addr) (xs ys : List V) (ds : List PyData), (SqL K H a xs ∨ SqT K H a xs) → (SqL K H b ys ∨ SqT K H b ys) → DpAll K H xs ds → DpAll K H ys ds → ds.length ≤ 100000 → (∀ e ∈ ds, okD d e) →
        ((tSeq (tIfS (tTest (tOp rNe (tCB1 (xLen K) (tVar 0)) (tCB1 (xLen K) (tVar 1)))) (tRet (tC (.bl false))) tNext)
          (tSeq (tFor (iRng1 (tCons (tCB1 (xLen K) (tVar 1)) tNil)) (gName 2) (tIfS (tNot (tB (tCall (spr_law_alike K d) [] E (tCons (tOp (rIx K) (tVar 0) (tVar 2)) (tCons (tOp (rIx K) (tVar 1) (tVar 2)) tNil))))) (tRet (tC (.bl false))) tNext))
            (tRet (tC (.bl true))))) : TS) { nx := fun _ H' => Q .non H', rt := Q } [some (.ref a), some (.ref b), none] H := by
      intro a b xs ys ds ha hb dx dy hl hok
      have lx := dpAll_len dx
      have ly := dpAll_len dy
      refine ⟨_, rfl, a, xs, rfl, ha, _, rfl, b, ys, rfl, hb, rfl, _, rfl, ?_⟩
      have e : (!decide (V.int (xs.length : Int) = V.int (ys.length : Int))) = false := by rw [lx, ly]; simp
      rw [e]
      refine ⟨_, rfl, b, ys, rfl, hb, _, rfl, by omega, by omega, ?_⟩
      refine for_range (lo := 0) (n := (ys.length : Int).toNat) (fun i σ H' => H' = H ∧ ∃ x2, σ = [some (.ref a), some (.ref b), x2]) ⟨rfl, none, rfl⟩ ?_ ?_
      · rintro i σ H' hi ⟨rfl, x2, rfl⟩
        have hid : i < ds.length := by omega
        have hd := List.getElem?_eq_getElem hid
        obtain ⟨vx, gx, px⟩ := dpAll_get dx hd
        obtain ⟨vy, gy, py⟩ := dpAll_get dy hd
        have ix : ∀ {a : Addr} {xs : List V} {v : V} {Q : VK}, (SqL K H' a xs ∨ SqT K H' a xs) → xs[i]? = some v → Q v H' → rIx K (.ref a) (.int (0 + (i : Int))) H' Q := fun h g q => by
          rcases h with h | h
          · exact .inl ⟨_, _, _, _, rfl, rfl, h, at_of (j := i) (by omega) g, q⟩
          · exact .inr (.inl ⟨_, _, _, _, rfl, rfl, h, at_of (j := i) (by omega) g, q⟩)
        refine ⟨_, rfl, _, rfl, ix ha gx ⟨_, rfl, _, rfl, ix hb gy ?_⟩⟩
        exact ⟨ds[i], hok _ (List.getElem_mem hid), px, py, _, rfl, rfl, _, rfl⟩
      · rintro σ H' ⟨rfl, x2, rfl⟩
        exact k
    cases hx with
    | non =>
      cases hy
      exact ⟨_, rfl, rfl, _, rfl, _, rfl, rfl, k⟩
    | bl b =>
      cases hy
      refine ⟨_, rfl, rfl, _, rfl, _, rfl, isi_go (t := "bool") (b := true) (.base (.bl b)) (by decide +kernel) ⟨_, rfl, _, rfl, isi_go (t := "bool") (b := true) (.base (.bl b)) (by decide +kernel) ⟨_, rfl, _, rfl, _, rfl, rfl, ?_⟩⟩⟩
      rw [decide_eq_true rfl]
      exact k
    | int b =>
      cases hy
      refine ⟨_, rfl, rfl, _, rfl, _, rfl, isi_go (t := "int") (b := false) (.base (.int b)) (by decide +kernel) ⟨_, rfl, _, rfl, isi_go (t := "int") (b := true) (.base (.int b)) (by decide +kernel) ⟨_, rfl, _, rfl, isi_go (t := "int") (b := true) (.base (.int b)) (by decide +kernel) ⟨_, rfl, _, rfl, isi_go (t := "int") (b := false) (.base (.int b)) (by decide +kernel) ⟨_, rfl, _, rfl, _, rfl, _, rfl, rfl, ?_⟩⟩⟩⟩⟩
      rw [decide_eq_true rfl]
      exact k
    | str b =>
      cases hy
      refine ⟨_, rfl, rfl, _, rfl, _, rfl, isi_go (t := "str") (b := false) (.base (.str b)) (by decide +kernel) ⟨_, rfl, _, rfl, isi_go (t := "str") (b := false) (.base (.str b)) (by decide +kernel) ⟨_, rfl, _, rfl, isi_go (t := "str") (b := true) (.base (.str b)) (by decide +kernel) ⟨_, rfl, _, rfl, isi_go (t := "str") (b := true) (.base (.str b)) (by decide +kernel) ⟨_, rfl, _, rfl, _, rfl, rfl, ?_⟩⟩⟩⟩⟩
      rw [decide_eq_true rfl]
      exact k
    | @lst a xs ds sx dx =>
      cases hy with
      | @lst b ys _ sy dy =>
        obtain ⟨hl, hok⟩ : ds.length ≤ 100000 ∧ ∀ e ∈ ds, okD d e := ok
        refine ⟨_, rfl, rfl, _, rfl, _, rfl, isi_go (t := "list") (b := false) (tyL sy) (by decide +kernel) ⟨_, rfl, _, rfl, isi_go (t := "list") (b := false) (tyL sy) (by decide +kernel) ⟨_, rfl, _, rfl, isi_go (t := "list") (b := false) (tyL sy) (by decide +kernel) ⟨_, rfl, ?_⟩⟩⟩⟩
        refine ⟨_, rfl, isi_go (t := "list") (b := false) (tyL sy) (by decide +kernel) ⟨_, rfl, isi_go (t := "list") (b := false) (tyL sx) (by decide +kernel) ⟨rfl, _, rfl, _, rfl, isi_go (t := "list") (b := true) (tyL sy) (by decide +kernel) ⟨_, rfl, isi_go (t := "list") (b := true) (tyL sx) (by decide +kernel) ⟨rfl, _, rfl, ?_⟩⟩⟩⟩⟩
        exact tail a b xs ys ds (.inl sx) (.inl sy) dx dy hl hok
    | @tup a xs ds sx dx =>
      cases hy with
      | @tup b ys _ sy dy =>
        obtain ⟨hl, hok⟩ : ds.length ≤ 100000 ∧ ∀ e ∈ ds, okD d e := ok
        refine ⟨_, rfl, rfl, _, rfl, _, rfl, isi_go (t := "tuple") (b := false) (tyT sy) (by decide +kernel) ⟨_, rfl, _, rfl, isi_go (t := "tuple") (b := false) (tyT sy) (by decide +kernel) ⟨_, rfl, _, rfl, isi_go (t := "tuple") (b := false) (tyT sy) (by decide +kernel) ⟨_, rfl, ?_⟩⟩⟩⟩
        refine ⟨_, rfl, isi_go (t := "tuple") (b := true) (tyT sy) (by decide +kernel) ⟨_, rfl, isi_go (t := "tuple") (b := true) (tyT sx) (by decide +kernel) ⟨rfl, _, rfl, _, rfl, isi_go (t := "tuple") (b := false) (tyT sy) (by decide +kernel) ⟨_, rfl, isi_go (t := "tuple") (b := false) (tyT sx) (by decide +kernel) ⟨rfl, _, rfl, ?_⟩⟩⟩⟩⟩
        exact tail a b xs ys ds (.inr sx) (.inr sy) dx dy hl hok
end Rs

namespace Rs
open PySem PySem.Spec PyProof.Rows L2
/-! ### what stays while the box is drawn from; the runs' sizes -/
theorem Lst.but {α : Type} {R : Rel α} (st : Stable R) {H H' : Hp} {a l x : Addr} {xs : List α} (B : Box H a l) (k : But [a, l] H H') (L : Lst R H x xs) (n : x ∉ [a, l]) : Lst R H' x xs := L.keep st (B.tup k) fun o e => k _ _ e n
theorem Box.fresh {H : Hp} {a l x : Addr} (B : Box H a l) (h : H x = none) : x ∉ [a, l] := by
  obtain ⟨ns, z, e1, e2, _⟩ := B.ex
  exact nn (ne_of_none e1 h).symm (ne_of_none e2 h).symm
/-- runs as they should be -/
def RunsOk (ks : List Str) (n : Nat) (rs : List (List Pr)) : Prop := ∀ r ∈ rs, r.length ≤ n ∧ ∀ q ∈ r, isRow ks q.2 = true
theorem outer_ok {ks : List Str} {o : Ord} {size : Int} (h1 : 1 ≤ size) {N : Nat} : ∀ (n : Nat) (left late : List Pr) (found : List (List Pr)), Fine ks (left ++ late) → left.length + late.length ≤ N → RunsOk ks N found →
    RunsOk ks N (outer o size n left late found) ∧ (outer o size n left late found).length ≤ found.length + n
  | 0, left, late, found, _, _, c => ⟨c, by simp [outer]⟩
  | n + 1, left, late, found, a, b, c => by
    unfold outer
    by_cases hne : left = [] ∧ late = []
    · rw [if_pos hne]
      exact ⟨c, by omega⟩
    · rw [if_neg hne]
      have fine0 : Fine ks (left ++ (late ++ [])) := by rw [List.append_nil]; exact a
      obtain ⟨k1, k2, k3, k4, k5⟩ := inner_keeps (ks := ks) (o := o) (size := size) (left.length + late.length + 1) left late [] [] fine0 (by simp) (by simp)
      generalize inner o size (left.length + late.length + 1) left late [] [] = R2 at k1 k2 k3 k4 k5
      simp only [List.length_nil] at k2
      obtain ⟨g1, g2⟩ := outer_ok (N := N) h1 n R2.1 R2.2.1 (found ++ [R2.2.2]) k1 (by omega) (fun r hr => by
        rcases List.mem_append.mp hr with z | z
        · exact c r z
        · rw [List.mem_singleton.mp z]
          exact ⟨by omega, k3⟩)
      rw [List.length_append, List.length_singleton] at g2
      exact ⟨g1, by omega⟩
theorem runsOf_ok {ks : List Str} {o : Ord} {size : Int} (h1 : 1 ≤ size) {xs : List Pr} (f : Fine ks xs) : RunsOk ks xs.length (runsOf o size xs) ∧ (runsOf o size xs).length ≤ xs.length + 1 := by
  have := outer_ok (o := o) h1 (xs.length + 1) xs [] [] (by rw [List.append_nil]; exact f) (by simp) (N := xs.length) (fun r hr => by simp at hr)
  simpa [runsOf] using this
theorem parts_ok {ks : List Str} {o : Ord} {size : Int} (h1 : 1 ≤ size) {xs : List Pr} (f : Fine ks xs) : RunsOk ks xs.length (parts o size xs) ∧ (parts o size xs).length ≤ xs.length + 1 := by
  refine ⟨fun r hr => ?_, ?_⟩
  · obtain ⟨i, _, rfl⟩ := List.mem_map.mp hr
    have p := srt_perm o (slc size xs i)
    have fs : Fine ks (slc size xs i) := (f.drop _).take _
    refine ⟨?_, (fs.perm p).row⟩
    rw [p.length_eq]
    unfold slc
    rw [List.length_take, List.length_drop]
    omega
  · have := nslc_le (n := xs.length) h1
    simp [parts]
    omega
theorem runs_data_ok {ks : List Str} {n : Nat} {rs : List (List Pr)} (h : RunsOk ks n rs) (hn : n ≤ 100000) (hl : rs.length ≤ 100000) (hk : ks.length ≤ 4) : okD 5 (runsD rs) :=
  list_ok (n := 4) hl fun r hr => list_ok (n := 3) (Nat.le_trans (h r hr).1 hn) fun q hq => pair_ok ((h r hr).2 q hq) (by omega) 0
theorem GoodOrd.len {ks : List Str} {o : Ord} (g : GoodOrd ks o) (h : ks.length ≤ 4) : o.length ≤ 4 := by
  have nd := g.nd
  have sub : (o.map (·.1)) ⊆ List.range ks.length := fun x hx => by
    obtain ⟨t, ht, rfl⟩ := List.mem_map.mp hx
    exact List.mem_range.mpr (g.col t ht)
  have := nd.length_le_of_subset sub
  rw [List.length_map, List.length_range] at this
  omega
theorem paired_mem {α β : Type} {F : α → β → Prop} : ∀ {l : List α} {m : List β}, Paired F l m → ∀ {a : α}, a ∈ l → ∃ b ∈ m, F a b
  | _, _, .nil, _, h => by simp at h
  | _, _, .cons q t, a, h => by
    rcases List.mem_cons.mp h with e | e
    · subst e; exact ⟨_, List.mem_cons_self .., q⟩
    · obtain ⟨b, hb, f⟩ := paired_mem t e
      exact ⟨b, List.mem_cons_of_mem _ hb, f⟩
end Rs

/-! sorted(..) of pairs (number, anything), no number twice -/
namespace Rs
open PySem PySem.Spec PyProof.Rows L2
/-- a pair whose first is the int x -/
def NumPair (h : Heap) (v : Value) (x : Int) : Prop := ∃ a o t w n, v = .ref a ∧ h.get? a = some o ∧ o.cls = .type "tuple" ∧ o.data = .seq #[.int x t, w] n
theorem NumPair.keeps {h h' : Heap} {v : Value} {x : Int} (p : NumPair h v x) (k : ∀ b o, h.get? b = some o → o.cls = .type "tuple" → h'.get? b = some o) : NumPair h' v x := by
  obtain ⟨a, o, t, w, n, e, ho, hc, hd⟩ := p
  exact ⟨a, o, t, w, n, e, k _ _ ho hc, hc, hd⟩
theorem swo_num {α : Type} (k : α → Int) : SrtO.Swo fun v u => decide (k v < k u) := by
  refine ⟨fun x y h => ?_, fun x y z h1 h2 => ?_⟩
  · have := of_decide_eq_true h
    exact decide_eq_false (by omega)
  · have a := of_decide_eq_false h1
    have b := of_decide_eq_false h2
    exact decide_eq_false (by omega)
section
variable {prog : Program} {w : World} {A : Around} {s : Shared}
theorem num_firsts {h : Heap} : ∀ {vs : List Value}, (∀ v ∈ vs, ∃ x, NumPair h v x) → ∃ fs : List Value, PySem.W.KatTups h vs fs ∧ fs.length = vs.length ∧ ∀ f ∈ fs, ∃ x t, f = Value.int x t
  | [], _ => ⟨[], PySem.W.KatTups.nil, rfl, fun _ hm => by simp at hm⟩
  | v :: vs, hp => by
    obtain ⟨fs, h1, h2, h3⟩ := num_firsts (vs := vs) fun u hu => hp u (List.mem_cons_of_mem _ hu)
    obtain ⟨x, a, o, t, w, n, e, ho, hc, hd⟩ := hp v (List.mem_cons_self ..)
    subst e
    refine ⟨.int x t :: fs, PySem.W.KatTups.cons ho hc hd rfl h1, by rw [List.length_cons, List.length_cons, h2], fun f hm => ?_⟩
    rcases List.mem_cons.mp hm with z | z
    · exact ⟨x, t, z⟩
    · exact h3 f z
theorem num_cmp {vs : List Value} {k : Value → Int} (hp : ∀ v ∈ vs, NumPair s.heap v (k v)) (hu : ∀ v ∈ vs, ∀ u ∈ vs, k v = k u → v = u) : SrtO.Cmp prog w A s (tuples' true) (fun p => p.1 ∈ vs) (SrtO.lt2 fun v u => decide (k v < k u)) := by
  intro p q hm hm'
  have h1 := hp _ hm
  have h2 := hp _ hm'
  show wpAny (model prog w) A (keyLt' (tuples' true) p.1 q.1) (fun r s' => s' = s ∧ r = decide (k p.1 < k q.1)) (fun _ _ => False) s
  by_cases e : k p.1 = k q.1
  · have epq := hu _ hm _ hm' e
    rw [← epq]
    obtain ⟨a, o, t, y, n, ea, ho, hc, hd⟩ := h1
    have ed : decide (k p.1 < k p.1) = false := decide_eq_false (Int.lt_irrefl _)
    rw [ed]
    generalize k p.1 = x at hd ed
    rw [ea]
    refine PySem.W.kat_lt ho hd ho hd ?_
    show PySem.W.KatLex prog w A true (decide (2 < 2)) _ [(.int x t, .int x t), (y, y)] 0 s
    refine PySem.W.kat_cons (SeqAt.EqAt.int_int x t x t prog w _ _ ?_)
    refine PySem.W.kat_go (fun _ => ?_) (fun e1 => absurd e1 (by simp))
    refine PySem.W.kat_yes (PySem.W.kat_cons (SeqAt.EqAt.same y prog w _ _ ?_))
    exact PySem.W.kat_yes (PySem.W.kat_nil ⟨rfl, rfl⟩)
  · generalize k p.1 = x at h1 e ⊢
    generalize k q.1 = x' at h2 e ⊢
    obtain ⟨a, o, t, y, n, ea, ho, hc, hd⟩ := h1
    obtain ⟨a', o', t', y', n', ea', ho', hc', hd'⟩ := h2
    rw [ea, ea']
    refine PySem.W.kat_lt ho hd ho' hd' ?_
    show PySem.W.KatLex prog w A true (decide (2 < 2)) _ [(.int x t, .int x' t'), (y, y')] 0 s
    refine PySem.W.kat_cons (SeqAt.EqAt.int_int x t x' t' prog w _ _ ?_)
    refine PySem.W.kat_go (fun e1 => absurd (by simpa using e1) e) (fun _ => ?_)
    exact PySem.W.kat_no (oneLt_int ⟨rfl, rfl⟩)
theorem num_sortable {a : Addr} {vs : List Value} {k : Value → Int} (h0 : 0 < vs.length) (hp : ∀ v ∈ vs, NumPair s.heap v (k v)) (hu : ∀ v ∈ vs, ∀ u ∈ vs, k v = k u → v = u) (ha : ∀ o, s.heap.get? a = some o → o.cls ≠ .type "tuple") : SrtO.SortableO prog w A s a vs fun v u => decide (k v < k u) := by
  intro h' keep
  have hp' : ∀ v ∈ vs, NumPair h' v (k v) := fun v hm => (hp v hm).keeps fun b o e c => keep b o (fun z => by subst z; exact ha o e c) e
  obtain ⟨fs, h1, h2, h3⟩ := num_firsts fun v hm => ⟨_, hp' v hm⟩
  refine ⟨tuples' true, fun Q E hq => ?_, num_cmp hp' hu⟩
  refine PySem.W.kat_kind (T := .type "int") h1 (by omega) (fun f hm => ?_) (by rfl) ?_
  · obtain ⟨x, t, rfl⟩ := h3 f hm
    exact PySem.W.Looks.now
  · have e : (Value.type "int" != Value.type "tuple") = true := by first | decide +kernel | rfl | decide
    rw [e]
    exact hq
end
/-- sorted(xs) of pairs (number, anything), k tells the number, no number twice: a new list in the order of the numbers -/
def rSortN (K : PySem.W.Frag) : List V → Hp → VK → Prop := fun vs H Q => ∃ (a : Addr) (xs : List V) (k : V → Int), vs = [V.ref a] ∧ SqL K H a xs ∧ (∀ x ∈ xs, ∃ t w, x = V.ref t ∧ H t = some (.tup [.int (k x), w])) ∧ (∀ x ∈ xs, ∀ y ∈ xs, k x = k y → x = y) ∧
  ∀ ys p, ys.Pairwise (fun x y => k x ≤ k y) → ys.Perm xs → H p = none → Q (.ref p) (upd H p (.lst ys))
section
variable {X : Cx}
theorem cr_sortN : CallR X (.builtin "sorted") (rSortN X.K) := by
  intro pins s σ H vs us Q I r h
  obtain ⟨a, xs, k, rfl, hs, hx, hu, q⟩ := h
  obtain ⟨its, rv, hl, hz⟩ := I.list hs
  obtain ⟨u, rfl, ru⟩ := vals1 r
  obtain rfl : u = Value.ref a := ru
  obtain ⟨e1, e2⟩ := refs_back rv fun x m => by
    obtain ⟨t, _, e, _⟩ := hx x m
    exact ⟨t, e⟩
  have hm : ∀ v ∈ its, L2.backV v ∈ xs := fun v hv => by rw [e1]; exact List.mem_map.mpr ⟨_, hv, rfl⟩
  have hz' : its.length ≤ sizeLine := by rw [← rv.length]; exact hz
  have hp : ∀ v ∈ its, NumPair s.heap v (k (L2.backV v)) := fun v hv => by
    obtain ⟨t, rfl⟩ := e2 v hv
    obtain ⟨t', w, e, ht⟩ := hx _ (hm _ hv)
    cases e
    obtain ⟨_, its2, r2, o, ho, hc, n, hd⟩ := I.hok _ _ ht
    obtain ⟨u1, u2, rfl, ri, rj⟩ := vals2 r2
    obtain ⟨t1, rfl⟩ := ri
    exact ⟨t, o, t1, u2, n, rfl, ho, hc, hd⟩
  have huu : ∀ v ∈ its, ∀ u ∈ its, k (L2.backV v) = k (L2.backV u) → v = u := fun v hv u hu' e => by
    obtain ⟨t, rfl⟩ := e2 v hv
    obtain ⟨t', rfl⟩ := e2 u hu'
    have := hu _ (hm _ hv) _ (hm _ hu') e
    cases this
    rfl
  refine SrtO.sorted_ord (swo_num fun v => k (L2.backV v)) hl.isList hz' (fun h2 h₁ a ha kk => ?_) fun out hs hb => ?_
  · refine num_sortable (s := { s with heap := h₁ }) (by omega) (fun v hm => (hp v hm).keeps fun b o e _ => (kk b o e).2) huu fun o e => ?_
    have e' : some o = some (seqObj "list" its.toArray 0) := e.symm.trans ha
    cases e'
    intro c
    exact absurd (Value.type.inj c) (by decide)
  · have h3 : ∀ u ∈ out, ∃ a, u = Value.ref a := fun u hu => e2 u (hb.perm.mem_iff.mp hu)
    obtain ⟨n, hn⟩ := sortedAll_at s.heap its out.toArray
    refine ⟨.ref (s.heap.objs.size + 1), upd H (s.heap.objs.size + 1) (.lst (out.map L2.backV)), I.laid (t' := s.toks) (fun b o e => sortedAll_old e) (Nat.le_succ _) ⟨?_, out, n, vals_back h3, hn⟩, rfl, q _ _ ?_ ?_ (I.hok.fresh (Nat.le_succ _))⟩
    · rw [List.length_map, hb.perm.length_eq]; exact hz'
    · refine List.pairwise_map.mpr (hs.imp fun {x y} h => ?_)
      have := of_decide_eq_false h
      omega
    · rw [e1]
      exact hb.perm.map L2.backV
end
end Rs

namespace Rs
open PySem PySem.Spec PyProof.Rows L2
/-! ### what runs by exchange are like -/
theorem fill_after (o : Ord) (size : Int) (last : Option Pr) : ∀ (left h l : List Pr), ∀ x ∈ (fillL o size last left h l).2.1, x ∈ h ∨ (x ∈ left ∧ late o x last = false)
  | [], h, l, x, hx => .inl hx
  | p :: left, h, l, x, hx => by
    unfold fillL at hx
    by_cases c : (h.length : Int) + (l.length : Int) < size
    · rw [if_pos c] at hx
      cases e : late o p last with
      | true =>
        rw [e] at hx
        rcases fill_after o size last left h (l ++ [p]) x hx with z | ⟨z, z2⟩
        · exact .inl z
        · exact .inr ⟨List.mem_cons_of_mem _ z, z2⟩
      | false =>
        rw [e] at hx
        rcases fill_after o size last left (h ++ [p]) l x hx with z | ⟨z, z2⟩
        · rcases List.mem_append.mp z with y | y
          · exact .inl y
          · rw [List.mem_singleton.mp y]
            exact .inr ⟨List.mem_cons_self .., e⟩
        · exact .inr ⟨List.mem_cons_of_mem _ z, z2⟩
    · rw [if_neg c] at hx
      exact .inl hx
theorem fill_le (o : Ord) (size : Int) (last : Option Pr) : ∀ (left h l : List Pr), (fillL o size last left h l).1.length + (fillL o size last left h l).2.2.length ≤ left.length + l.length
  | [], h, l => Nat.le_refl _
  | p :: left, h, l => by
    unfold fillL
    split
    · split
      · have := fill_le o size last left h (l ++ [p])
        rw [List.length_append, List.length_singleton] at this
        rw [List.length_cons]
        omega
      · have := fill_le o size last left (h ++ [p]) l
        rw [List.length_cons]
        omega
    · exact Nat.le_refl _
theorem inner_le (o : Ord) (size : Int) : ∀ (n : Nat) (left h l run : List Pr), (inner o size n left h l run).1.length + (inner o size n left h l run).2.1.length ≤ left.length + l.length
  | 0, _, _, _, _ => Nat.le_refl _
  | n + 1, left, h, l, run => by
    have q := fill_le o size run.getLast? left h l
    unfold inner
    split
    · exact q
    · exact Nat.le_trans (inner_le o size n _ _ _ _) q
/-- a fill that starts no run late: none is late -/
theorem fill_none (o : Ord) (size : Int) : ∀ (left h : List Pr), (fillL o size none left h []).2.2 = [] ∧ h ++ left = (fillL o size none left h []).2.1 ++ (fillL o size none left h []).1 ∧ ((fillL o size none left h []).1 ≠ [] → size ≤ ((fillL o size none left h []).2.1.length : Int))
  | [], h => ⟨rfl, rfl, fun z => absurd rfl z⟩
  | p :: left, h => by
    unfold fillL
    by_cases c : (h.length : Int) + (([] : List Pr).length : Int) < size
    · rw [if_pos c]
      have e : late o p none = false := rfl
      rw [e]
      have q := fill_none o size left (h ++ [p])
      rw [List.append_assoc] at q
      exact q
    · rw [if_neg c]
      exact ⟨rfl, rfl, fun _ => by simp at c ⊢; omega⟩
theorem up_snoc {ks : List Str} {o : Ord} (ho : ∀ t ∈ o, t.1 < ks.length) {run : List Pr} {m : Pr} (hr : ∀ q ∈ run, isRow ks q.2 = true) (hm : isRow ks m.2 = true) (u : Up o run) (h : ∀ l, run.getLast? = some l → before o l m = true) : Up o (run ++ [m]) := by
  refine List.pairwise_append.mpr ⟨u, List.pairwise_singleton _ _, fun x hx y hy => ?_⟩
  rw [List.mem_singleton.mp hy]
  obtain ⟨l, hl⟩ : ∃ l, run.getLast? = some l := by
    cases e : run.getLast? with
    | none => rw [List.getLast?_eq_none_iff] at e; rw [e] at hx; simp at hx
    | some l => exact ⟨l, rfl⟩
  obtain ⟨r0, er⟩ := List.getLast?_eq_some_iff.mp hl
  have hlm := h l hl
  rw [er] at hx u hr
  rcases List.mem_append.mp hx with z | z
  · have b := (List.pairwise_append.mp u).2.2 x z l (by simp)
    exact before_trans o (cmp_of ho (hr x hx) (hr l (by simp))) (cmp_of ho (hr l (by simp)) hm) b hlm
  · rw [List.mem_singleton.mp z]; exact hlm
/-- a run rises, and each row is somewhere -/
theorem inner_up {ks : List Str} {o : Ord} (ho : ∀ t ∈ o, t.1 < ks.length) {size : Int} : ∀ (n : Nat) (left h l run : List Pr), Fine ks (run ++ (left ++ (h ++ l))) → left.length + h.length + l.length < n → Up o run → (∀ x ∈ h, ∀ q, run.getLast? = some q → before o q x = true) →
    Up o (inner o size n left h l run).2.2 ∧ ((inner o size n left h l run).2.2 ++ ((inner o size n left h l run).1 ++ (inner o size n left h l run).2.1)).Perm (run ++ (left ++ (h ++ l)))
  | 0, left, h, l, run, _, b, _, _ => by omega
  | n + 1, left, h, l, run, f, b, u, hh => by
    have pm := fill_perm o size run.getLast? left h l
    have af := fill_after o size run.getLast? left h l
    unfold inner
    generalize fillL o size run.getLast? left h l = r at pm af
    obtain ⟨l1, h1, t1⟩ := r
    dsimp only at pm af ⊢
    have e := pm.length_eq
    simp only [List.length_append] at e
    have f1 : Fine ks (run ++ (l1 ++ (h1 ++ t1))) := f.perm (List.Perm.append_left _ pm)
    by_cases c : h1 = []
    · rw [if_pos c]
      subst c
      exact ⟨u, List.Perm.append_left _ pm⟩
    · rw [if_neg c]
      have hm := mn_mem o c
      have f2 : Fine ks (h1 ++ t1) := f1.right.right
      have nd := f2.left.nd
      have op := out_perm nd hm
      have ol := op.length_eq
      rw [List.length_cons] at ol
      have rm : isRow ks (mn o h1).2 = true := f2.left.row _ hm
      have hb : ∀ x ∈ h1, ∀ q, run.getLast? = some q → before o q x = true := fun x hx q hq => by
        rcases af x hx with z | ⟨z, z2⟩
        · exact hh x z q hq
        · have hqr : q ∈ run := List.mem_of_getLast? hq
          rw [hq] at z2
          have rx := f1.right.right.left.row x hx
          have n1 : x.1 ≠ q.1 := fun e => nodup_ne f1.nd hqr (List.mem_append_right _ (List.mem_append_left _ hx)) e.symm
          exact after_of ho rx (f1.left.row q hqr) n1 z2
      have pq : (run ++ [mn o h1] ++ (l1 ++ (outN (mn o h1).1 h1 ++ t1))).Perm (run ++ (l1 ++ (h1 ++ t1))) := by
        rw [List.append_assoc]
        refine List.Perm.append_left _ ?_
        have q1 : ([mn o h1] ++ (l1 ++ (outN (mn o h1).1 h1 ++ t1))).Perm (l1 ++ ([mn o h1] ++ (outN (mn o h1).1 h1 ++ t1))) := by
          have := List.Perm.append_right (outN (mn o h1).1 h1 ++ t1) (List.perm_append_comm (l₁ := [mn o h1]) (l₂ := l1))
          simpa [List.append_assoc] using this
        refine q1.trans (List.Perm.append_left _ ?_)
        rw [← List.append_assoc]
        exact List.Perm.append_right _ op.symm
      obtain ⟨g1, g2⟩ := inner_up ho (size := size) n l1 (outN (mn o h1).1 h1) t1 (run ++ [mn o h1]) (f1.perm pq) (by omega)
        (up_snoc ho f1.left.row rm u fun q hq => hb _ hm q hq)
        (fun x hx q hq => by
          rw [List.getLast?_append] at hq
          have hq : some (mn o h1) = some q := hq
          cases hq
          have hx2 := List.mem_filter.mp hx
          refine mn_first ho f2.left hx2.1 fun z => ?_
          have := of_decide_eq_true hx2.2
          rw [z] at this
          exact this rfl)
      exact ⟨g1, g2.trans (pq.trans (List.Perm.append_left _ pm))⟩
/-- all runs -/
theorem outer_spec {ks : List Str} {o : Ord} (ho : ∀ t ∈ o, t.1 < ks.length) {size : Int} (h1 : 1 ≤ size) : ∀ (n : Nat) (left late : List Pr) (found : List (List Pr)), Fine ks (left ++ late) → left.length + late.length < n →
    ∃ tail, outer o size n left late found = found ++ tail ∧ (tail.flatten).Perm (left ++ late) ∧ (∀ r ∈ tail, r ≠ [] ∧ Up o r) ∧ ∀ r ∈ tail.dropLast, size ≤ (r.length : Int)
  | 0, _, _, _, _, b => by omega
  | n + 1, left, late, found, f, b => by
    unfold outer
    by_cases hne : left = [] ∧ late = []
    · rw [if_pos hne]
      obtain ⟨rfl, rfl⟩ := hne
      exact ⟨[], by simp, by simp, by simp, by simp⟩
    · rw [if_neg hne]
      have fine0 : Fine ks (left ++ (late ++ [])) := by rw [List.append_nil]; exact f
      have kp := inner_keeps (ks := ks) (o := o) (size := size) (left.length + late.length + 1) left late [] [] fine0 (by simp) (by simp)
      have up := inner_up ho (size := size) (left.length + late.length + 1) left late [] [] (by simpa using f) (by simp) .nil (fun x _ q hq => by simp at hq)
      have some_ := fill_some o h1 hne
      have fn := fill_none o size left late
      have le : (inner o size (left.length + late.length + 1) left late [] []).1.length + (inner o size (left.length + late.length + 1) left late [] []).2.1.length ≤ (fillL o size none left late []).1.length := by
        unfold inner
        have e0 : ([] : List Pr).getLast? = none := rfl
        rw [e0, if_neg some_]
        have q := inner_le o size (left.length + late.length) (fillL o size none left late []).1 (outN (mn o (fillL o size none left late []).2.1).1 (fillL o size none left late []).2.1) (fillL o size none left late []).2.2 ([] ++ [mn o (fillL o size none left late []).2.1])
        rw [fn.1, List.length_nil, Nat.add_zero] at q
        rw [fn.1]
        exact q
      generalize inner o size (left.length + late.length + 1) left late [] [] = R2 at kp up le
      obtain ⟨k1, k2, k3, k4, k5⟩ := kp
      have k6 := k5 some_
      simp only [List.length_nil] at k2 k6
      rw [List.nil_append] at k1
      obtain ⟨tail, e1, e2, e3, e4⟩ := outer_spec ho h1 n R2.1 R2.2.1 (found ++ [R2.2.2]) k1 (by omega)
      have fl := congrArg List.length fn.2.1
      rw [List.length_append, List.length_append] at fl
      refine ⟨R2.2.2 :: tail, by rw [e1, List.append_assoc]; rfl, ?_, ?_, ?_⟩
      · rw [List.flatten_cons]
        refine (List.Perm.append_left _ e2).trans ?_
        have := up.2
        simpa using this
      · intro r hr
        rcases List.mem_cons.mp hr with z | z
        · rw [z]
          exact ⟨fun y => by rw [y] at k6; simp at k6, up.1⟩
        · exact e3 r z
      · intro r hr
        cases ht : tail with
        | nil => rw [ht] at hr; simp at hr
        | cons t ts =>
          rw [ht] at hr
          rw [ht] at e4
          rw [List.dropLast_cons₂] at hr
          rcases List.mem_cons.mp hr with z | z
          · rw [z]
            have tne : (left ≠ [] ∨ late ≠ []) := by
              by_cases hl : left = []
              · exact .inr fun y => hne ⟨hl, y⟩
              · exact .inl hl
            have hpos : 0 < R2.1.length + R2.2.1.length := by
              have p := e2.length_eq
              rw [ht, List.flatten_cons, List.length_append, List.length_append] at p
              have := (e3 t (by rw [ht]; simp)).1
              have := List.length_pos_iff.mpr this
              omega
            have := fn.2.2 (fun y => by rw [y, List.length_nil] at le; omega)
            omega
          · exact e4 r z
end Rs

namespace Rs
open PySem PySem.Spec PyProof.Rows L2
theorem runsOf_spec {ks : List Str} {o : Ord} (ho : ∀ t ∈ o, t.1 < ks.length) {size : Int} (h1 : 1 ≤ size) {xs : List Pr} (f : Fine ks xs) :
    ((runsOf o size xs).flatten).Perm xs ∧ (∀ r ∈ runsOf o size xs, r ≠ [] ∧ Up o r) ∧ ∀ r ∈ (runsOf o size xs).dropLast, size ≤ (r.length : Int) := by
  obtain ⟨tail, e1, e2, e3, e4⟩ := outer_spec ho h1 (xs.length + 1) xs [] [] (by rw [List.append_nil]; exact f) (by simp)
  unfold runsOf
  rw [e1, List.nil_append]
  rw [List.append_nil] at e2
  exact ⟨e2, e3, e4⟩
theorem nslc_nat {size : Int} {n : Nat} (h1 : 1 ≤ size) : n ≤ nslc size n * size.toNat ∧ ∀ i, i < nslc size n → i * size.toNat < n := by
  obtain ⟨s, rfl⟩ : ∃ s : Nat, size = (s : Int) := ⟨size.toNat, by omega⟩
  have e : nslc (s : Int) n = (n + s - 1) / s := by
    unfold nslc
    have : ((n : Int) + (s : Int) - 1) = ((n + s - 1 : Nat) : Int) := by omega
    rw [this, ← Int.natCast_ediv]
    rfl
  rw [e, Int.toNat_natCast]
  have d := Nat.div_add_mod (n + s - 1) s
  have m := Nat.mod_lt (n + s - 1) (y := s) (by omega)
  rw [Nat.mul_comm] at d
  refine ⟨by omega, fun i hi => ?_⟩
  have q := Nat.mul_le_mul_right s (show i + 1 ≤ (n + s - 1) / s by omega)
  rw [Nat.add_mul, Nat.one_mul] at q
  omega
theorem slc_flat (size : Int) (xs : List Pr) : ∀ n, ((List.range n).map fun i => slc size xs i).flatten = xs.take (n * size.toNat)
  | 0 => by simp
  | n + 1 => by
    rw [List.range_succ, List.map_append, List.flatten_append, slc_flat size xs n]
    simp only [List.map_cons, List.map_nil, List.flatten_cons, List.flatten_nil, List.append_nil]
    unfold slc
    rw [Nat.add_mul, Nat.one_mul, List.take_add]
theorem flat_perm {α β : Type} {f g : α → List β} (h : ∀ a, (f a).Perm (g a)) : ∀ l : List α, ((l.map f).flatten).Perm ((l.map g).flatten)
  | [] => .nil
  | a :: l => by
    rw [List.map_cons, List.map_cons, List.flatten_cons, List.flatten_cons]
    exact (h a).append (flat_perm h l)
theorem parts_spec {ks : List Str} {o : Ord} (ho : ∀ t ∈ o, t.1 < ks.length) {size : Int} (h1 : 1 ≤ size) {xs : List Pr} (f : Fine ks xs) :
    ((parts o size xs).flatten).Perm xs ∧ (∀ r ∈ parts o size xs, r ≠ [] ∧ Up o r) ∧ ∀ r ∈ (parts o size xs).dropLast, (r.length : Int) = size := by
  obtain ⟨n1, n2⟩ := nslc_nat (n := xs.length) h1
  have sl : ∀ i, (srt o (slc size xs i)).length = min size.toNat (xs.length - i * size.toNat) := fun i => by
    rw [(srt_perm o _).length_eq]
    unfold slc
    rw [List.length_take, List.length_drop]
  unfold parts
  refine ⟨?_, fun r hr => ?_, fun r hr => ?_⟩
  · refine (flat_perm (g := fun i => slc size xs i) (fun i => srt_perm o _) _).trans ?_
    rw [slc_flat, List.take_of_length_le n1]
  · obtain ⟨i, hi, rfl⟩ := List.mem_map.mp hr
    rw [List.mem_range] at hi
    have q := n2 i hi
    refine ⟨fun z => ?_, srt_up ho _ ((f.drop _).take _)⟩
    have e := sl i
    rw [z, List.length_nil] at e
    omega
  · cases hN : nslc size xs.length with
    | zero => rw [hN] at hr; simp at hr
    | succ N =>
      rw [hN, List.range_succ, List.map_append, List.map_cons, List.map_nil, List.dropLast_concat] at hr
      obtain ⟨i, hi, rfl⟩ := List.mem_map.mp hr
      rw [List.mem_range] at hi
      have q := n2 N (by omega)
      have q2 := Nat.mul_le_mul_right size.toNat (show i + 1 ≤ N by omega)
      rw [Nat.add_mul, Nat.one_mul] at q2
      rw [sl i]
      omega
/-- how many runs there can be -/
theorem runs_count {s : Nat} : ∀ {rs : List (List Pr)}, (∀ r ∈ rs, r ≠ []) → (∀ r ∈ rs.dropLast, s ≤ r.length) → rs ≠ [] → (rs.length - 1) * s < rs.flatten.length
  | [], _, _, n => absurd rfl n
  | [r], a, _, _ => by
    have := List.length_pos_iff.mpr (a r (by simp))
    simp
    omega
  | r :: r2 :: rs, a, b, _ => by
    rw [List.dropLast_cons₂] at b
    have ih := runs_count (rs := r2 :: rs) (fun x hx => a x (List.mem_cons_of_mem _ hx)) (fun x hx => b x (List.mem_cons_of_mem _ hx)) (by simp)
    have := b r (List.mem_cons_self ..)
    rw [List.flatten_cons, List.length_append]
    simp only [List.length_cons, Nat.add_sub_cancel] at ih ⊢
    rw [Nat.add_mul, Nat.one_mul]
    omega
theorem runs_le_parts {ks : List Str} {o : Ord} (ho : ∀ t ∈ o, t.1 < ks.length) {size : Int} (h1 : 1 ≤ size) {xs : List Pr} (f : Fine ks xs) : (runsOf o size xs).length ≤ (parts o size xs).length := by
  obtain ⟨a1, a2, a3⟩ := runsOf_spec ho h1 f
  obtain ⟨n1, n2⟩ := nslc_nat (n := xs.length) h1
  have pl : (parts o size xs).length = nslc size xs.length := by simp [parts]
  rw [pl]
  by_cases hn : runsOf o size xs = []
  · rw [hn]; simp
  · have q := runs_count (s := size.toNat) (fun r hr => (a2 r hr).1) (fun r hr => by have := a3 r hr; omega) hn
    rw [a1.length_eq] at q
    by_cases c : (runsOf o size xs).length ≤ nslc size xs.length
    · exact c
    · have := Nat.mul_le_mul_right size.toNat (show nslc size xs.length ≤ (runsOf o size xs).length - 1 by omega)
      omega
/-! ### rising and falling rows -/
theorem fill_rise (o : Ord) {size : Int} (last : Option Pr) : ∀ (left h : List Pr), (∀ p ∈ left, late o p last = false) → (fillL o size last left h []).2.2 = [] ∧ ∃ k, left = k ++ (fillL o size last left h []).1 ∧ (fillL o size last left h []).2.1 = h ++ k
  | [], h, _ => ⟨rfl, [], rfl, (List.append_nil _).symm⟩
  | p :: left, h, a => by
    unfold fillL
    by_cases c : (h.length : Int) + (([] : List Pr).length : Int) < size
    · rw [if_pos c, a p (List.mem_cons_self ..)]
      obtain ⟨e, k, e1, e2⟩ := fill_rise o (size := size) last left (h ++ [p]) fun x hx => a x (List.mem_cons_of_mem _ hx)
      exact ⟨e, p :: k, congrArg (p :: ·) e1, by simp [e2]⟩
    · rw [if_neg c]
      exact ⟨rfl, [], rfl, (List.append_nil _).symm⟩
theorem fill_empty (o : Ord) {size : Int} (h1 : 1 ≤ size) (last : Option Pr) : ∀ (left : List Pr), (∀ p ∈ left, late o p last = false) → left ≠ [] → (fillL o size last left [] []).2.1 ≠ []
  | [], _, n => absurd rfl n
  | p :: left, a, _ => by
    unfold fillL
    rw [if_pos (by simp; omega), a p (List.mem_cons_self ..)]
    exact fill_here o size last left ([] ++ [p]) [] (by simp)
/-- rows that rise are one run -/
theorem inner_rise {ks : List Str} {o : Ord} (ho : ∀ t ∈ o, t.1 < ks.length) {size : Int} (h1 : 1 ≤ size) : ∀ (n : Nat) (left h run : List Pr), Fine ks (run ++ (left ++ h)) → left.length + h.length < n → (∀ p ∈ left, ∀ q ∈ h ++ run, before o q p = true) → Up o left →
    (inner o size n left h [] run).1 = [] ∧ (inner o size n left h [] run).2.1 = []
  | 0, _, _, _, _, b, _, _ => by omega
  | n + 1, left, h, run, f, b, a, u => by
    have nl : ∀ p ∈ left, late o p run.getLast? = false := fun p hp => by
      cases e : run.getLast? with
      | none => rfl
      | some q =>
        have hq : q ∈ run := List.mem_of_getLast? e
        have rp := f.row p (List.mem_append_right _ (List.mem_append_left _ hp))
        have rq := f.row q (List.mem_append_left _ hq)
        show before o p q = false
        cases hb : before o p q with
        | false => rfl
        | true =>
          have t := before_trans o (cmp_of ho rp rq) (cmp_of ho rq rp) hb (a p hp q (List.mem_append_right _ hq))
          rw [before_irrefl] at t
          cases t
    obtain ⟨e1, k, e2, e4⟩ := fill_rise o (size := size) run.getLast? left h nl
    have e3 : (fillL o size run.getLast? left h []).2.1 = [] → left = [] := fun z => by
      by_cases hh : h = []
      · by_cases hl : left = []
        · exact hl
        · subst hh
          exact absurd z (fill_empty o h1 _ left nl hl)
      · exact absurd z (fill_here o size _ left h [] hh)
    unfold inner
    generalize fillL o size run.getLast? left h [] = r at e1 e2 e3 e4
    obtain ⟨l1, h2, t1⟩ := r
    dsimp only at e1 e2 e3 e4 ⊢
    subst e1
    by_cases c : h2 = []
    · rw [if_pos c]
      have el := e3 c
      rw [el] at e2
      exact ⟨(List.append_eq_nil_iff.mp e2.symm).2, rfl⟩
    · rw [if_neg c]
      subst e2 e4
      have pm : (l1 ++ (h ++ k)).Perm (k ++ l1 ++ h) := by
        refine List.perm_append_comm.trans ?_
        rw [List.append_assoc]
        exact List.perm_append_comm
      have f1 : Fine ks (run ++ (l1 ++ (h ++ k))) := f.perm (List.Perm.append_left _ pm)
      have hm := mn_mem o c
      have op := out_perm f1.right.right.nd hm
      have ol := op.length_eq
      rw [List.length_cons] at ol
      have e := pm.length_eq
      simp only [List.length_append] at e ol b
      refine inner_rise ho h1 n l1 (outN (mn o (h ++ k)).1 (h ++ k)) (run ++ [mn o (h ++ k)]) ?_ (by omega) ?_ (List.pairwise_append.mp u).2.1
      · refine f1.perm ?_
        rw [List.append_assoc]
        refine List.Perm.append_left _ ?_
        have q1 := List.Perm.append_right (outN (mn o (h ++ k)).1 (h ++ k)) (List.perm_append_comm (l₁ := [mn o (h ++ k)]) (l₂ := l1))
        refine List.Perm.trans (by simpa [List.append_assoc] using q1) (List.Perm.append_left _ op.symm)
      · intro p hp q hq
        have fromk : ∀ q ∈ h ++ k, before o q p = true := fun q hq => by
          rcases List.mem_append.mp hq with z | z
          · exact a p (List.mem_append_right _ hp) q (List.mem_append_left _ z)
          · exact (List.pairwise_append.mp u).2.2 q z p hp
        rcases List.mem_append.mp hq with z | z
        · exact fromk q (List.mem_filter.mp z).1
        · rcases List.mem_append.mp z with y | y
          · exact a p (List.mem_append_right _ hp) q (List.mem_append_right _ y)
          · rw [List.mem_singleton.mp y]
            exact fromk _ hm
theorem runs_rise {ks : List Str} {o : Ord} (ho : ∀ t ∈ o, t.1 < ks.length) {size : Int} (h1 : 1 ≤ size) {xs : List Pr} (f : Fine ks xs) (u : Up o xs) : (runsOf o size xs).length = if xs = [] then 0 else 1 := by
  unfold runsOf outer
  by_cases hn : xs = []
  · rw [if_pos ⟨hn, rfl⟩, if_pos hn]
    rfl
  · rw [if_neg (fun z => hn z.1), if_neg hn]
    have q := inner_rise ho h1 (xs.length + ([] : List Pr).length + 1) xs [] [] (by simpa using f) (by simp) (by simp) u
    rw [q.1, q.2]
    obtain ⟨m, hm⟩ : ∃ m, xs.length = m + 1 := ⟨xs.length - 1, by have := List.length_pos_iff.mpr hn; omega⟩
    rw [hm]
    unfold outer
    rw [if_pos ⟨rfl, rfl⟩]
    rfl
theorem fill_fall (o : Ord) (size : Int) (last : Option Pr) : ∀ (left h l : List Pr), (∀ p ∈ left, late o p last = true) → (fillL o size last left h l).2.1 = h ∧ (fillL o size last left h l).2.2 ++ (fillL o size last left h l).1 = l ++ left ∧ ∃ k, left = k ++ (fillL o size last left h l).1
  | [], h, l, _ => ⟨rfl, rfl, [], rfl⟩
  | p :: left, h, l, a => by
    unfold fillL
    by_cases c : (h.length : Int) + (l.length : Int) < size
    · rw [if_pos c, a p (List.mem_cons_self ..)]
      obtain ⟨e1, e2, k, e3⟩ := fill_fall o size last left h (l ++ [p]) fun x hx => a x (List.mem_cons_of_mem _ hx)
      refine ⟨e1, ?_, p :: k, congrArg (p :: ·) e3⟩
      rw [List.append_assoc] at e2
      exact e2
    · rw [if_neg c]
      exact ⟨rfl, rfl, [], rfl⟩
theorem inner_fall {o : Ord} {size : Int} : ∀ (n : Nat) (left h l run : List Pr), (h.map (·.1)).Nodup → h.length < n → run ≠ [] → (∀ p ∈ left, ∀ q ∈ h ++ run, before o p q = true) →
    (inner o size n left h l run).2.2.length = run.length + h.length ∧ (inner o size n left h l run).2.1 ++ (inner o size n left h l run).1 = l ++ left
  | 0, _, _, _, _, _, b, _, _ => by omega
  | n + 1, left, h, l, run, nd, b, hr, a => by
    have nl : ∀ p ∈ left, late o p run.getLast? = true := fun p hp => by
      cases e : run.getLast? with
      | none => exact absurd (List.getLast?_eq_none_iff.mp e) hr
      | some q => exact a p hp q (List.mem_append_right _ (List.mem_of_getLast? e))
    obtain ⟨e1, e2, k, e3⟩ := fill_fall o size run.getLast? left h l nl
    unfold inner
    generalize fillL o size run.getLast? left h l = r at e1 e2 e3
    obtain ⟨l1, h2, t1⟩ := r
    dsimp only at e1 e2 e3 ⊢
    subst e1
    by_cases c : h2 = []
    · rw [if_pos c]
      subst c
      exact ⟨rfl, e2⟩
    · rw [if_neg c]
      have hm := mn_mem o c
      have op := out_perm nd hm
      have ol := op.length_eq
      rw [List.length_cons] at ol
      have nd2 : ((outN (mn o h2).1 h2).map (·.1)).Nodup := nd.sublist (List.Sublist.map _ List.filter_sublist)
      obtain ⟨g1, g2⟩ := inner_fall (o := o) (size := size) n l1 (outN (mn o h2).1 h2) t1 (run ++ [mn o h2]) nd2 (by omega) (by simp) (fun p hp q hq => by
        have hp2 : p ∈ left := by rw [e3]; exact List.mem_append_right _ hp
        rcases List.mem_append.mp hq with z | z
        · exact a p hp2 q (List.mem_append_left _ (List.mem_filter.mp z).1)
        · rcases List.mem_append.mp z with y | y
          · exact a p hp2 q (List.mem_append_right _ y)
          · rw [List.mem_singleton.mp y]
            exact a p hp2 _ (List.mem_append_left _ hm))
      rw [List.length_append, List.length_singleton] at g1
      exact ⟨by omega, g2.trans e2⟩
theorem fill_cap (o : Ord) (size : Int) (last : Option Pr) : ∀ (left h l : List Pr), (h.length : Int) + (l.length : Int) ≤ size → ((fillL o size last left h l).2.1.length : Int) + ((fillL o size last left h l).2.2.length : Int) ≤ size
  | [], h, l, a => a
  | p :: left, h, l, a => by
    unfold fillL
    by_cases c : (h.length : Int) + (l.length : Int) < size
    · rw [if_pos c]
      split
      · exact fill_cap o size last left h (l ++ [p]) (by rw [List.length_append, List.length_singleton]; omega)
      · exact fill_cap o size last left (h ++ [p]) l (by rw [List.length_append, List.length_singleton]; omega)
    · rw [if_neg c]
      exact a
theorem inner_cap {o : Ord} {size : Int} : ∀ (n : Nat) (left h l run : List Pr), (h.map (·.1)).Nodup → (h.length : Int) + (l.length : Int) ≤ size → ((left ++ (h ++ l)).map (·.1)).Nodup → ((inner o size n left h l run).2.1.length : Int) ≤ size
  | 0, left, h, l, run, _, b, _ => by show (l.length : Int) ≤ size; omega
  | n + 1, left, h, l, run, nd, b, d => by
    have q := fill_cap o size run.getLast? left h l b
    have pm := fill_perm o size run.getLast? left h l
    unfold inner
    generalize fillL o size run.getLast? left h l = r at q pm
    obtain ⟨l1, h1, t1⟩ := r
    dsimp only at q pm ⊢
    by_cases c : h1 = []
    · rw [if_pos c]
      show (t1.length : Int) ≤ size
      omega
    · rw [if_neg c]
      have d1 : ((l1 ++ (h1 ++ t1)).map (·.1)).Nodup := (pm.map (·.1)).nodup_iff.mpr d
      have d2 : (h1.map (·.1)).Nodup := by
        rw [List.map_append, List.map_append] at d1
        exact (List.nodup_append.mp (List.nodup_append.mp d1).2.1).1
      have sl : (outN (mn o h1).1 h1).length ≤ h1.length := List.length_filter_le _ _
      have sub : (l1 ++ (outN (mn o h1).1 h1 ++ t1)).Sublist (l1 ++ (h1 ++ t1)) := List.Sublist.append (.refl _) (List.Sublist.append List.filter_sublist (.refl _))
      exact inner_cap n _ _ _ _ (d2.sublist (List.Sublist.map _ List.filter_sublist)) (by omega) (d1.sublist (List.Sublist.map _ sub))
/-- rows that fall are runs as long as the room -/
theorem outer_fall {ks : List Str} {o : Ord} {size : Int} (h1 : 1 ≤ size) : ∀ (n : Nat) (left late : List Pr) (found : List (List Pr)), Fine ks (left ++ late) → left.length + late.length < n → (late.length : Int) ≤ size → (late ++ left).Pairwise (fun a b => before o b a = true) →
    ∃ tail, outer o size n left late found = found ++ tail ∧ (left = [] ∧ late = [] → tail = []) ∧ ∀ r ∈ tail.dropLast, (r.length : Int) = size
  | 0, _, _, _, _, b, _, _ => by omega
  | n + 1, left, late, found, f, b, hc, fall => by
    unfold outer
    by_cases hne : left = [] ∧ late = []
    · rw [if_pos hne]
      exact ⟨[], by simp, fun _ => rfl, by simp⟩
    · rw [if_neg hne]
      have fine0 : Fine ks (left ++ (late ++ [])) := by rw [List.append_nil]; exact f
      have kp := inner_keeps (ks := ks) (o := o) (size := size) (left.length + late.length + 1) left late [] [] fine0 (by simp) (by simp)
      have some_ := fill_some o h1 hne
      obtain ⟨n1, n2, n3⟩ := fill_none o size left late
      have cap := fill_cap o size none left late [] (by simpa using hc)
      have pm := fill_perm o size none left late []
      have fh : Fine ks ((fillL o size none left late []).1 ++ ((fillL o size none left late []).2.1 ++ (fillL o size none left late []).2.2)) := fine0.perm pm
      have hm := mn_mem o some_
      have nd := fh.right.left.nd
      have ol := (out_perm nd hm).length_eq
      rw [List.length_cons] at ol
      have tl := congrArg List.length n2
      rw [List.length_append, List.length_append] at tl
      have ff : ((fillL o size none left late []).2.1 ++ (fillL o size none left late []).1).Pairwise (fun a b => before o b a = true) := by rw [← n2]; exact fall
      have cap2 := inner_cap (o := o) (size := size) (left.length + late.length + 1) left late [] [] (f.right.nd) (by simpa using hc) fine0.nd
      have fl := inner_fall (o := o) (size := size) (left.length + late.length) (fillL o size none left late []).1 (outN (mn o (fillL o size none left late []).2.1).1 (fillL o size none left late []).2.1) (fillL o size none left late []).2.2 ([] ++ [mn o (fillL o size none left late []).2.1])
        (nd.sublist (List.Sublist.map _ List.filter_sublist)) (by omega) (by simp) (fun p hp q hq => by
          have q2 := (List.pairwise_append.mp ff).2.2
          rcases List.mem_append.mp hq with z | z
          · exact q2 q (List.mem_filter.mp z).1 p hp
          · have : q = mn o (fillL o size none left late []).2.1 := by simpa using z
            rw [this]
            exact q2 _ hm p hp)
      have ei : inner o size (left.length + late.length + 1) left late [] [] = inner o size (left.length + late.length) (fillL o size none left late []).1 (outN (mn o (fillL o size none left late []).2.1).1 (fillL o size none left late []).2.1) (fillL o size none left late []).2.2 ([] ++ [mn o (fillL o size none left late []).2.1]) := by
        rw [inner]
        have e0 : ([] : List Pr).getLast? = none := rfl
        rw [e0, if_neg some_]
      rw [← ei] at fl
      generalize inner o size (left.length + late.length + 1) left late [] [] = R2 at kp fl cap2
      rw [n1, List.nil_append] at fl
      obtain ⟨k1, k2, k3, k4, k5⟩ := kp
      simp only [List.length_nil] at k2
      rw [List.nil_append] at k1
      obtain ⟨f1, f2⟩ := fl
      simp only [List.nil_append, List.length_singleton] at f1
      obtain ⟨tail, e1, e2, e3⟩ := outer_fall (ks := ks) (o := o) (size := size) h1 n R2.1 R2.2.1 (found ++ [R2.2.2]) k1 (by omega) cap2 (by rw [f2]; exact (List.pairwise_append.mp ff).2.1)
      refine ⟨R2.2.2 :: tail, by rw [e1, List.append_assoc]; rfl, fun z => absurd z hne, fun r hr => ?_⟩
      cases ht : tail with
      | nil => rw [ht] at hr; simp at hr
      | cons t ts =>
        rw [ht] at hr e3
        rw [List.dropLast_cons₂] at hr
        rcases List.mem_cons.mp hr with z | z
        · rw [z]
          have lne : (fillL o size none left late []).1 ≠ [] := fun y => by
            rw [y] at f2
            have := List.append_eq_nil_iff.mp f2
            have := e2 ⟨this.2, this.1⟩
            rw [ht] at this
            cases this
          have := n3 lne
          omega
        · exact e3 r z
theorem runs_fall {ks : List Str} {o : Ord} {size : Int} (h1 : 1 ≤ size) {xs : List Pr} (f : Fine ks xs) (fall : xs.Pairwise (fun a b => before o b a = true)) : ∀ r ∈ (runsOf o size xs).dropLast, (r.length : Int) = size := by
  obtain ⟨tail, e1, _, e3⟩ := outer_fall (ks := ks) (o := o) h1 (xs.length + 1) xs [] [] (by rw [List.append_nil]; exact f) (by simp) (by simp; omega) (by simpa using fall)
  unfold runsOf
  rw [e1, List.nil_append]
  exact e3
end Rs

namespace Rs
open PySem PySem.Spec PyProof.Rows L2
/-! ### ahead by the columns alone -/
def kb (o : Ord) (r s : Row) : Bool := before o (0, r) (0, s)
theorem kb_any : ∀ (o : Ord) {r s : Row} (x y : Int), kb o r s = true → before o (x, r) (y, s) = true
  | [], r, s, x, y, h => by simp [kb, before] at h
  | t :: o, r, s, x, y, h => by
    unfold kb at h
    rw [before_cons] at h ⊢
    by_cases e : kcol r t.1 = kcol s t.1
    · rw [if_pos e] at h
      rw [if_pos e]
      exact kb_any o x y h
    · rw [if_neg e] at h
      rw [if_neg e]
      exact h
/-- ahead by whatever number: the numbers may be others -/
theorem before_num : ∀ (o : Ord) {r s : Row} {a b x y : Int}, before o (a, r) (b, s) = true → x < y → before o (x, r) (y, s) = true
  | [], _, _, _, _, _, _, _, h => by simpa [before] using h
  | t :: o, r, s, a, b, x, y, h, l => by
    rw [before_cons] at h ⊢
    by_cases e : kcol r t.1 = kcol s t.1
    · rw [if_pos e] at h
      rw [if_pos e]
      exact before_num o h l
    · rw [if_neg e] at h
      rw [if_neg e]
      exact h
/-- ahead, and of another key in some column of the order -/
theorem kb_of : ∀ (o : Ord) {p q : Pr}, before o p q = true → (∃ t ∈ o, kcol p.2 t.1 ≠ kcol q.2 t.1) → kb o p.2 q.2 = true
  | [], _, _, _, ⟨t, h, _⟩ => by simp at h
  | u :: o, p, q, h, ⟨t, ht, hn⟩ => by
    unfold kb
    rw [before_cons] at h ⊢
    by_cases e : kcol p.2 u.1 = kcol q.2 u.1
    · rw [if_pos e] at h
      rw [if_pos e]
      rcases List.mem_cons.mp ht with z | z
      · subst z; exact absurd e hn
      · exact kb_of o h ⟨t, z, hn⟩
    · rw [if_neg e] at h
      rw [if_neg e]
      exact h
theorem pairwise_prs {R : Pr → Pr → Prop} {rows : List Row} {T : Row → Row → Prop} (h : rows.Pairwise T) (f : ∀ (x y : Int) r s, x < y → T r s → R (x, r) (y, s)) : (prs rows).Pairwise R := by
  unfold prs
  rw [List.pairwise_map, List.pairwise_iff_getElem]
  intro i j hi hj hij
  rw [List.length_range] at hi hj
  rw [List.getElem_range, List.getElem_range]
  rw [List.getD_eq_getElem?_getD, List.getD_eq_getElem?_getD, List.getElem?_eq_getElem hi, List.getElem?_eq_getElem hj]
  exact f _ _ _ _ (by omega) (List.pairwise_iff_getElem.mp h i j hi hj hij)
theorem prs_rise {o : Ord} {ys : List Pr} (u : Up o ys) : Up o (prs (ys.map (·.2))) :=
  pairwise_prs (T := fun r s => ∃ a b : Int, before o (a, r) (b, s) = true) (List.pairwise_map.mpr (u.imp fun {p q} h => ⟨p.1, q.1, h⟩)) fun x y r s l ⟨a, b, h⟩ => before_num o h l
theorem prs_fall {o : Ord} {fs : List Row} (u : fs.Pairwise fun a b => kb o b a = true) : (prs fs).Pairwise fun a b => before o b a = true :=
  pairwise_prs u fun x y r s _ h => kb_any o y x h
theorem kb_trans {ks : List Str} {o : Ord} (ho : ∀ t ∈ o, t.1 < ks.length) {r s t : Row} (hr : isRow ks r = true) (hs : isRow ks s = true) (ht : isRow ks t = true) (a : kb o r s = true) (b : kb o s t = true) : kb o r t = true :=
  before_trans (p := (0, r)) (q := (0, s)) (r := (0, t)) o (cmp_of ho hr hs) (cmp_of ho hs ht) a b
abbrev N_law_right : List Str := ["_law_order_here", "_law_rows_here", "_law_runs", "_law_every", "_law_run", "_law_k"]
abbrev P_law_right : List Str := ["_law_order_here", "_law_rows_here", "_law_runs"]
theorem paired_perm {α β : Type} {F : α → β → Prop} {l l' : List α} (p : l'.Perm l) : ∀ {m : List β}, Paired F l m → ∃ m', m'.Perm m ∧ Paired F l' m' := by
  induction p with
  | nil => intro m h; exact ⟨m, .refl _, h⟩
  | cons x _ ih =>
    intro m h
    cases h with
    | cons q t =>
      obtain ⟨m', a, b⟩ := ih t
      exact ⟨_ :: m', a.cons _, .cons q b⟩
  | swap x y l =>
    intro m h
    cases h with
    | cons q t =>
      cases t with
      | cons q2 t2 => exact ⟨_ :: _ :: _, List.Perm.swap .., .cons q2 (.cons q t2)⟩
  | trans _ _ ih1 ih2 =>
    intro m h
    obtain ⟨m1, a1, b1⟩ := ih2 h
    obtain ⟨m2, a2, b2⟩ := ih1 b1
    exact ⟨m2, a2.trans a1, b2⟩
/-- the number of a pair as it stands -/
def numOf (H : Hp) : V → Int
  | .ref a => match H a with
    | some (.tup (.int n :: _)) => n
    | _ => 0
  | _ => 0
theorem numOf_at {H : Hp} {v : V} {p : Pr} (h : PairAt H v p) : numOf H v = p.1 ∧ ∃ t w, v = .ref t ∧ H t = some (.tup [.int p.1, w]) := by
  obtain ⟨w, ⟨a, rfl, e⟩, _⟩ := h
  refine ⟨?_, a, w, rfl, e⟩
  simp only [numOf, e]
theorem prs_up {rows : List Row} : Up [] (prs rows) := by
  unfold prs Up
  rw [List.pairwise_map]
  refine (List.pairwise_lt_range (n := rows.length)).imp fun h => ?_
  show decide (_ < _) = true
  exact decide_eq_true (by show (_ : Int) < _; omega)
theorem num_sorted {ks : List Str} {rows : List Row} (good : ∀ r ∈ rows, isRow ks r = true) {zs : List Pr} (p : zs.Perm (prs rows)) (s : zs.Pairwise fun a b => a.1 ≤ b.1) : zs = prs rows := by
  have f := (prs_fine good).perm p
  refine up_unique (ks := ks) (o := []) (fun t h => by simp at h) f p ?_ prs_up
  have nd : zs.Pairwise fun a b => a.1 ≠ b.1 := List.pairwise_map.mp f.nd
  refine (s.and nd).imp fun {a b} h => decide_eq_true ?_
  have := h.1
  have := h.2
  omega
def sp_law_right (K : PySem.W.Frag) : Sp := fun vs H Q E => match vs with
  | [ov, rv, fv] => ∃ ks o rows rs H0 S f, LstV TurnAt H ov o ∧ LstV RowAt H rv rows ∧ fv = .ref f ∧ Lst (RunAt H0 S) H f rs ∧ (∀ t ∈ o, t.1 < ks.length) ∧ ks.length ≤ 4 ∧ (∀ r ∈ rows, isRow ks r = true) ∧ rows.length ≤ 120 ∧
    (rs.flatten).Perm (prs rows) ∧ (∀ r ∈ rs, r ≠ [] ∧ Up o r) ∧ ∀ H', Same H H' → Q (.bl true) H'
  | _ => False
def t_law_right (K : PySem.W.Frag) (E : XK) : TS := (tSeq (tAsg (tLst tNil) (gName 3))
  (tSeq (tFor (iList K (tVar 2)) (gName 4) 
     (tSeq (tIfS (tTest (tOp (xEqE K) (tVar 4) (tLst tNil))) (tRet (tC (.bl false))) tNext)
     (tSeq (tFor (iRng2 (tConsC (.int 1) (tCons (tCB1 (xLen K) (tVar 4)) tNil))) (gName 5) 
        (tIfS (tNot (tB (tCall (sp_law_ahead K) [] E (tCons (tVar 0) (tCons (tOp (rIxL K) (tVar 4) (tOpC xSub (tVar 5) (.int 1))) (tCons (tOp (rIxL K) (tVar 4) (tVar 5)) tNil)))))) (tRet (tC (.bl false))) tNext))
      (tDrop (tBM K "list" rExtend (tVar 3) (tCons (tVar 4) tNil))))))
   (tRet (tOp (rEqD K) (tCB1 (rSortN K) (tVar 3)) (tCall (sp_law_pairs K) [] E (tCons (tVar 1) tNil))))))
theorem flat_len {α : Type} {r : List α} {rs : List (List α)} (h : r ∈ rs) : r.length ≤ rs.flatten.length := by
  induction rs with
  | nil => simp at h
  | cons x rs ih =>
    rw [List.flatten_cons, List.length_append]
    rcases List.mem_cons.mp h with z | z
    · rw [z]; omega
    · have := ih z; omega
theorem pure_law_right {K : PySem.W.Frag} : ∀ vs H Q E, sp_law_right K vs H Q E → t_law_right K E { nx := fun _ H' => Q .non H', rt := Q } (start N_law_right vs) H := by
  intro vs H Q E h
  match vs, h with
  | [ov, rv, fv], h =>
    obtain ⟨ks, o, rows, rs, H0, S, f, ho, hr, rfl, Lf, hcol, hks, good, rl, pm, hrs, k⟩ := h
    have fine := (prs_fine good).perm pm
    have pl := pm.length_eq
    rw [prs_len] at pl
    obtain ⟨fv, ef, pf⟩ := Lf
    have fl := pf.length
    refine ⟨sz0, fun le hle => ?_⟩
    refine ⟨_, rfl, f, rfl, ⟨_, SqL.of (un ef hle)⟩, ?_⟩
    refine for_list (K := K) (a := f) (xs := fv) (fun i σ H' => ∃ x4 x5, σ = [some ov, some rv, some (.ref f), some (.ref le), x4, x5] ∧ Same H H' ∧ Lst PairAt H' le ((rs.take i).flatten)) ⟨none, none, rfl, Rs.Same.new hle, [], upd_same, .nil⟩ ?_ ?_ ?_
    · rintro i σ H' _ ⟨_, _, _, s, _⟩
      exact SqL.of (s _ _ ef)
    · rintro i v σ H' hi ⟨x4, x5, rfl, s, ⟨lv, el, pl2⟩⟩
      obtain ⟨r, hir, hrun⟩ := P2.get pf hi
      obtain ⟨l, rfl, _, _, ⟨rv', er, pr⟩⟩ := hrun
      have hrm : r ∈ rs := List.mem_of_getElem? hir
      obtain ⟨rne, rup⟩ := hrs r hrm
      have rlen := pr.length
      have rsub : ∀ q ∈ r, isRow ks q.2 = true := fun q hq => fine.row q (List.mem_flatten.mpr ⟨r, hrm, hq⟩)
      have rle := flat_len hrm
      have ll2 := pl2.length
      have tk : ((rs.take (i + 1)).flatten) = (rs.take i).flatten ++ r := by
        rw [List.take_succ, hir, List.flatten_append]
        simp
      have tot : ((rs.take i).flatten).length + r.length ≤ rs.flatten.length := by
        have e : rs.flatten = (rs.take (i + 1)).flatten ++ (rs.drop (i + 1)).flatten := by rw [← List.flatten_append, List.take_append_drop]
        rw [e, List.length_append, tk, List.length_append]
        omega
      have nle : l ≠ le := ne_of_none er hle
      refine ⟨_, rfl, sz0, fun p hp => eqE (s _ _ er) hp (b := false) (by cases rv' with | nil => (cases r with | nil => exact absurd rfl rne | cons => simp at rlen) | cons => rfl) ⟨_, rfl, ?_⟩⟩
      have s1 : Same H (upd H' p (.lst [])) := s.trans (Rs.Same.new hp)
      have el1 := un (u := .lst []) el hp
      have t1 := TupLe.same (Rs.Same.new (o := .lst []) hp)
      generalize upd H' p (.lst []) = H1 at s1 el1 t1
      refine ⟨_, rfl, lenL (s1 _ _ er) rfl ⟨1, _, rfl, ⟨by decide, by decide, by omega, by omega⟩, ?_⟩⟩
      refine for_range (lo := 1) (n := ((rv'.length : Int) - 1).toNat) (fun j σ H2 => H2 = H1 ∧ ∃ x5, σ = [some ov, some rv, some (.ref f), some (.ref le), some (.ref l), x5]) ⟨rfl, _, rfl⟩ ?_ ?_
      · rintro j σ H2 hj ⟨rfl, x5, rfl⟩
        have h1 : j + 1 < r.length := by omega
        obtain ⟨va, ga, ha⟩ := P2.get' pr (List.getElem?_eq_getElem (show j < r.length by omega))
        obtain ⟨vb, gb, hb⟩ := P2.get' pr (List.getElem?_eq_getElem h1)
        have tH := TupLe.same s1
        refine ⟨_, rfl, _, rfl, _, rfl, _, _, rfl, rfl, ixL (s1 _ _ er) (j := j) (by omega) ga ⟨_, rfl, _, rfl, ixL (s1 _ _ er) (j := j + 1) (by omega) gb ?_⟩⟩
        refine ⟨o, r[j], r[j + 1], LstV.same TurnAt.st s1 ho, PairAt.st _ _ _ _ tH ha, PairAt.st _ _ _ _ tH hb, cmp_of hcol (rsub _ (List.getElem_mem _)) (rsub _ (List.getElem_mem _)), _, rfl, ?_⟩
        have b := List.pairwise_iff_getElem.mp rup j (j + 1) (by omega) h1 (by omega)
        rw [b]
        exact ⟨rfl, _, rfl⟩
      · rintro σ H2 ⟨rfl, x5, rfl⟩
        refine ⟨_, rfl, .inl ⟨rfl, _, SqL.of el1⟩, _, rfl, le, l, _, _, rfl, rfl, el1, s1 _ _ er, szle (by omega), ?_⟩
        refine ⟨_, _, rfl, Rs.Same.mut s1 hle, ?_⟩
        rw [tk]
        have tH := TupLe.same s1
        have t2 : TupLe H2 (upd H2 le (.lst (lv ++ rv'))) := (TupLe.refl _).list el1
        exact ⟨_, upd_same, P2.app (Paired.tl PairAt.st (t1.trans t2) pl2) (Paired.tl PairAt.st (tH.trans t2) pr)⟩
    · rintro σ H' ⟨x4, x5, rfl, s, L⟩
      rw [List.take_of_length_le (by omega)] at L
      obtain ⟨lv, el, pl2⟩ := L
      have nd := fine.nd
      refine ⟨_, rfl, le, lv, numOf H', rfl, SqL.of el, fun x hx => ?_, fun x hx y hy e => ?_, fun ys p hs hp hpn => ?_⟩
      · obtain ⟨q, _, hq⟩ := paired_mem pl2 hx
        obtain ⟨e, t, w, e1, e2⟩ := numOf_at hq
        exact ⟨t, w, e1, by rw [e]; exact e2⟩
      · obtain ⟨i, hi, ei⟩ := List.mem_iff_getElem.mp hx
        obtain ⟨j, hj, ej⟩ := List.mem_iff_getElem.mp hy
        have hi' : lv[i]? = some x := by rw [List.getElem?_eq_getElem hi, ei]
        have hj' : lv[j]? = some y := by rw [List.getElem?_eq_getElem hj, ej]
        obtain ⟨q, gq, hq⟩ := P2.get pl2 hi'
        obtain ⟨q', gq', hq'⟩ := P2.get pl2 hj'
        rw [(numOf_at hq).1, (numOf_at hq').1] at e
        have g1 : (rs.flatten.map (·.1))[i]? = some q.1 := by rw [List.getElem?_map, gq]; rfl
        have g2 : (rs.flatten.map (·.1))[j]? = some q'.1 := by rw [List.getElem?_map, gq']; rfl
        rw [← e] at g2
        have : i = j := (List.getElem?_inj (List.getElem?_eq_some_iff.mp g1).1 nd).mp (g1.trans g2.symm)
        subst this
        rw [hi'] at hj'
        exact Option.some.inj hj'
      · obtain ⟨zs, pz, pp⟩ := paired_perm hp pl2
        have sz : zs.Pairwise fun a b => a.1 ≤ b.1 := by
          rw [List.pairwise_iff_getElem] at hs ⊢
          intro i j hi hj hij
          have lz := pp.length
          obtain ⟨v, gv, hv⟩ := P2.get' pp (List.getElem?_eq_getElem hi)
          obtain ⟨v', gv', hv'⟩ := P2.get' pp (List.getElem?_eq_getElem hj)
          have q := hs i j (by omega) (by omega) hij
          rw [List.getElem?_eq_getElem (by omega)] at gv gv'
          rw [Option.some.inj gv, Option.some.inj gv', (numOf_at hv).1, (numOf_at hv').1] at q
          exact q
        have ez := num_sorted good (pz.trans pm) sz
        subst ez
        have sp := Rs.Same.new (o := .lst ys) hpn
        refine ⟨_, rfl, rows, LstV.same RowAt.st (s.trans sp) hr, by omega, fun lp H2 nlp Lp s2 => ?_⟩
        have Ly : Lst PairAt (upd H' p (.lst ys)) p (prs rows) := ⟨ys, upd_same, Paired.tl PairAt.st (TupLe.same sp) pp⟩
        have od : okD 4 (.list ((prs rows).map pairD)) := list_ok (n := 3) (by rw [prs_len]; omega) fun q hq => pair_ok ((prs_fine good).row q hq) (by omega) 0
        refine ⟨_, _, lst_dp (fun _ _ => pair_dp) (Ly.same PairAt.st s2), lst_dp (fun _ _ => pair_dp) Lp, od.shaped (by decide), od.shaped (by decide), ?_⟩
        rw [od.eqv]
        exact k _ ((s.trans sp).trans s2)
end Rs

namespace Rs
open PySem PySem.Spec PyProof.Rows L2
abbrev N_law : List Str := ["_law_script", "_law_box", "_law_turn", "_law_kinds_here", "_law_order_here", "_law_rows_here", "_law_size", "_law_one", "_law_other", "_law_rising", "_law_falling", "_law_row", "_law_ahead_here", "_law_unlike", "_law_run", "_law_number", "_law_column", "_law_way"]
abbrev P_law : List Str := ["_law_script"]
def sp_law (K : PySem.W.Frag) : Sp := fun vs H Q E => match vs with
  | [s] => ∃ (p : Addr) (ns : List Int), s = .ref p ∧ SqL K H p (ns.map V.int) ∧ ns.length ≤ 63 ∧ ∀ H', Q (.bl true) H'
  | _ => False
def t_law (K : PySem.W.Frag) (E : XK) : TS := (tSeq (tAsg (tCall (sp_law_begun K) [] E (tCons (tVar 0) tNil)) (gName 1))
  (tSeq (tFor (iRng1 (tConsC (.int 2) tNil)) (gName 2) 
     (tSeq (tAsg (tCall (sp_law_kinds K) [] E (tCons (tVar 1) tNil)) (gName 3))
     (tSeq (tAsg (tCall (sp_law_order K) [] E (tCons (tVar 1) (tCons (tVar 3) tNil))) (gName 4))
      (tSeq (tAsg (tCall (sp_law_rows K) [] E (tCons (tVar 1) (tCons (tVar 3) (tConsC (.int 120) tNil)))) (gName 5))
       (tSeq (tAsg (tOpD xAdd (.int 1) (tCall (sp_law_take K) [] E (tCons (tVar 1) (tConsC (.int 24) tNil)))) (gName 6))
        (tSeq (tPar 7 8 (tCons (tCall (sp_filled K) [] E (tCons (tVar 3) (tCons (tVar 4) (tCons (tVar 6) (tCons (tVar 5) tNil))))) (tCons (tCall (sp_exchanged K) [] E (tCons (tVar 3) (tCons (tVar 4) (tCons (tVar 6) (tCons (tVar 5) tNil))))) tNil)))
         (tSeq (tIfS (tOr (tNot (tB (tCall (sp_law_right K) [] E (tCons (tVar 4) (tCons (tVar 5) (tCons (tVar 7) tNil)))))) (tOr (tNot (tB (tCall (sp_law_right K) [] E (tCons (tVar 4) (tCons (tVar 5) (tCons (tVar 8) tNil)))))) (tTest (tOp xGt (tCB1 (xLen K) (tVar 8)) (tCB1 (xLen K) (tVar 7)))))) (tRet (tC (.bl false))) tNext)
          (tSeq (tIfS (tTest (tOp (xNeE K) (tLc (iList K (tSl (rSlL K) (tVar 7) tNoPart (tPart (tC (.int (-1)))))) (gName 14) (tTest (tOp rNe (tCB1 (xLen K) (tVar 14)) (tVar 6))) (tVar 14) [14]) (tLst tNil))) (tRet (tC (.bl false))) tNext)
           (tSeq (tIfS (tTest (tOp (xNeE K) (tLc (iList K (tSl (rSlL K) (tVar 8) tNoPart (tPart (tC (.int (-1)))))) (gName 14) (tTest (tOp xLt (tCB1 (xLen K) (tVar 14)) (tVar 6))) (tVar 14) [14]) (tLst tNil))) (tRet (tC (.bl false))) tNext)
            (tSeq (tAsg (tLc (iList K (tCall (sp_law_sorted K) [] E (tCons (tVar 4) (tCons (tCall (sp_law_pairs K) [] E (tCons (tVar 5) tNil)) tNil)))) (gTup K 2 (gCons (gName 15) (gCons (gName 11) gNil))) tYes (tVar 11) [15, 11]) (gName 9))
             (tSeq (tIfS (tTest (tOp rNe (tCB1 (xLen K) (tCall (sp_exchanged K) [] E (tCons (tVar 3) (tCons (tVar 4) (tCons (tVar 6) (tCons (tVar 9) tNil)))))) (tCB1 xInt (tOp (xNeE K) (tVar 5) (tLst tNil))))) (tRet (tC (.bl false))) tNext)
              (tSeq (tAsg (tLst tNil) (gName 10))
               (tSeq (tFor (iList K (tRevL K (tVar 9))) (gName 11) 
                  (tSeq (tAsg (tIf (tTest (tOp (xNeE K) (tVar 10) (tLst tNil))) (tOpC (rIxL K) (tVar 10) (.int (-1))) (tTup tNil)) (gName 12))
                  (tSeq (tAsg (tLc (iList K (tVar 4)) (gTup K 2 (gCons (gName 16) (gCons (gName 17) gNil))) (tOr (tTest (tOp (rEqD K) (tVar 12) (tTup tNil))) (tTest (tOp rNe (tOp (rIxT K) (tVar 11) (tVar 16)) (tOp (rIxT K) (tVar 12) (tVar 16))))) (tVar 16) [16, 17]) (gName 13))
                   (tIfS (tTest (tOp (xNeE K) (tVar 13) (tLst tNil))) (tDrop (tBM K "list" rAppend (tVar 10) (tCons (tVar 11) tNil))) tNext))))
                (tIfS (tTest (tOp (xNeE K) (tLc (iList K (tSl (rSlL K) (tCall (sp_exchanged K) [] E (tCons (tVar 3) (tCons (tVar 4) (tCons (tVar 6) (tCons (tVar 10) tNil))))) tNoPart (tPart (tC (.int (-1)))))) (gName 14) (tTest (tOp rNe (tCB1 (xLen K) (tVar 14)) (tVar 6))) (tVar 14) [14]) (tLst tNil))) (tRet (tC (.bl false))) tNext))))))))))))))
   (tRet (tC (.bl true)))))
theorem cut_last {vs : List V} : cutV vs none (some (-1)) = vs.dropLast := by
  unfold cutV
  rw [HT.sIx_none, List.drop_zero, List.dropLast_eq_take]
  congr 1
  show (if (-1 : Int) < 0 then ((-1 : Int) + (vs.length : Int)).toNat else min (-1 : Int).toNat vs.length) - 0 = _
  rw [if_pos (by decide)]
  omega
/-- none of all runs but the last is of another length -/
theorem k04_ne {K : PySem.W.Frag} {H H0 : Hp} {S : List Addr} {f : Addr} {rs : List (List Pr)} {size : Int} {Q : Bool → Hp → Prop} {x0 x1 x2 x3 x4 x5 x7 x8 x9 x10 x11 x12 x13 x14 x15 x16 x17 : Option V} (L : Lst (RunAt H0 S) H f rs) (hs : ∀ r ∈ rs.dropLast, (r.length : Int) = size) (q : ∀ H', Same H H' → Q false H') :
    (tTest (tOp (xNeE K) (tLc (iList K (tSl (rSlL K) (tC (.ref f)) tNoPart (tPart (tC (.int (-1)))))) (gName 14) (tTest (tOp rNe (tCB1 (xLen K) (tVar 14)) (tVar 6))) (tVar 14) [14]) (tLst tNil)) : TT) [x0, x1, x2, x3, x4, x5, some (.int size), x7, x8, x9, x10, x11, x12, x13, x14, x15, x16, x17] H Q := by
  obtain ⟨vs, ef, pf⟩ := L
  refine ⟨_, rfl, _, _, rfl, SqL.of ef, fun p hp => ⟨p, rfl, ⟨_, SqL.of upd_same⟩, fun D hD => ?_⟩⟩
  rw [cut_last] at *
  have s1 : Same H (upd H p (.lst vs.dropLast)) := Rs.Same.new hp
  refine lc_list (K := K) (a := p) (xs := vs.dropLast) (fun j H2 => H2 D = some (.lst []) ∧ Same (upd H p (.lst vs.dropLast)) H2) ⟨upd_same, Rs.Same.new hD⟩ ?_ ?_ ?_
  · rintro j H2 _ ⟨_, s⟩
    exact SqL.of (s _ _ upd_same)
  · rintro j v H2 hj ⟨hd, s⟩
    have hm : v ∈ vs.dropLast := List.mem_of_getElem? hj
    have pd : Paired (RunAt H0 S H) vs.dropLast rs.dropLast := by
      rw [List.dropLast_eq_take, List.dropLast_eq_take, ← pf.length]
      exact P2.take _ pf
    obtain ⟨r, hr, l, rfl, _, _, ws, ew, pw⟩ := paired_mem pd hm
    have hl := hs r hr
    have pl := pw.length
    refine ⟨rfl, _, rfl, lenL ((s1.trans s) _ _ ew) rfl ⟨_, rfl, rfl, _, rfl, ?_⟩⟩
    have e : (!decide (V.int (ws.length : Int) = V.int size)) = false := by rw [pl, hl]; simp
    rw [e]
    exact ⟨hd, s⟩
  · rintro H2 ⟨hd, s⟩
    exact ⟨sz0, fun e he => neE hd he (b := false) rfl ⟨_, rfl, q _ ((s1.trans s).trans (Rs.Same.new he))⟩⟩
theorem k04_lt {K : PySem.W.Frag} {H H0 : Hp} {S : List Addr} {f : Addr} {rs : List (List Pr)} {size : Int} {Q : Bool → Hp → Prop} {x0 x1 x2 x3 x4 x5 x7 x8 x9 x10 x11 x12 x13 x14 x15 x16 x17 : Option V} (L : Lst (RunAt H0 S) H f rs) (hs : ∀ r ∈ rs.dropLast, size ≤ (r.length : Int)) (q : ∀ H', Same H H' → Q false H') :
    (tTest (tOp (xNeE K) (tLc (iList K (tSl (rSlL K) (tC (.ref f)) tNoPart (tPart (tC (.int (-1)))))) (gName 14) (tTest (tOp xLt (tCB1 (xLen K) (tVar 14)) (tVar 6))) (tVar 14) [14]) (tLst tNil)) : TT) [x0, x1, x2, x3, x4, x5, some (.int size), x7, x8, x9, x10, x11, x12, x13, x14, x15, x16, x17] H Q := by
  obtain ⟨vs, ef, pf⟩ := L
  refine ⟨_, rfl, _, _, rfl, SqL.of ef, fun p hp => ⟨p, rfl, ⟨_, SqL.of upd_same⟩, fun D hD => ?_⟩⟩
  rw [cut_last] at *
  have s1 : Same H (upd H p (.lst vs.dropLast)) := Rs.Same.new hp
  refine lc_list (K := K) (a := p) (xs := vs.dropLast) (fun j H2 => H2 D = some (.lst []) ∧ Same (upd H p (.lst vs.dropLast)) H2) ⟨upd_same, Rs.Same.new hD⟩ ?_ ?_ ?_
  · rintro j H2 _ ⟨_, s⟩
    exact SqL.of (s _ _ upd_same)
  · rintro j v H2 hj ⟨hd, s⟩
    have hm : v ∈ vs.dropLast := List.mem_of_getElem? hj
    have pd : Paired (RunAt H0 S H) vs.dropLast rs.dropLast := by
      rw [List.dropLast_eq_take, List.dropLast_eq_take, ← pf.length]
      exact P2.take _ pf
    obtain ⟨r, hr, l, rfl, _, _, ws, ew, pw⟩ := paired_mem pd hm
    have hl := hs r hr
    have pl := pw.length
    refine ⟨rfl, _, rfl, lenL ((s1.trans s) _ _ ew) rfl ⟨_, rfl, _, _, rfl, rfl, _, rfl, ?_⟩⟩
    have e : decide ((ws.length : Int) < size) = false := decide_eq_false (by omega)
    rw [e]
    exact ⟨hd, s⟩
  · rintro H2 ⟨hd, s⟩
    exact ⟨sz0, fun e he => neE hd he (b := false) rfl ⟨_, rfl, q _ ((s1.trans s).trans (Rs.Same.new he))⟩⟩
theorem P2.rev {α β : Type} {F : α → β → Prop} : ∀ {l : List α} {m : List β}, Paired F l m → Paired F l.reverse m.reverse
  | _, _, .nil => .nil
  | _, _, .cons h t => by
    rw [List.reverse_cons, List.reverse_cons]
    exact P2.app (P2.rev t) (P2.one h)
/-- the columns in which a row is unlike the one ahead -/
theorem unlike_lc {K : PySem.W.Frag} {H : Hp} {lo : Addr} {o : Ord} {ks : List Str} {wr wa : V} {r : Row} {ra : Option Row} {x0 x1 x2 x3 x5 x6 x7 x8 x9 x10 x13 x14 x15 x16 x17 : Option V} {Q : VK} (Lo : Lst TurnAt H lo o) (hcol : ∀ t ∈ o, t.1 < ks.length) (hks : ks.length ≤ 4) (hol : o.length ≤ 4) (hr : RowAt H wr r) (gr : isRow ks r = true)
    (ha : match ra with | none => IsTp H wa [] | some s => RowAt H wa s ∧ isRow ks s = true ∧ 0 < ks.length)
    (q : ∀ D H', Same H H' → H D = none → H' D = some (.lst ((o.filter fun t => match ra with | none => true | some s => decide (kcol r t.1 ≠ kcol s t.1)).map fun t => V.int (t.1 : Int))) → Q (.ref D) H') :
    (tLc (iList K (tVar 4)) (gTup K 2 (gCons (gName 16) (gCons (gName 17) gNil))) (tOr (tTest (tOp (rEqD K) (tVar 12) (tTup tNil))) (tTest (tOp rNe (tOp (rIxT K) (tVar 11) (tVar 16)) (tOp (rIxT K) (tVar 12) (tVar 16))))) (tVar 16) [16, 17]) [x0, x1, x2, x3, some (.ref lo), x5, x6, x7, x8, x9, x10, some wr, some wa, x13, x14, x15, x16, x17] H Q := by
  obtain ⟨tv, et, pt⟩ := Lo
  have lt := pt.length
  refine ⟨_, rfl, lo, rfl, ⟨_, SqL.of et⟩, fun D hD => ?_⟩
  refine lc_list (K := K) (a := lo) (xs := tv) (fun j H' => H' D = some (.lst (((o.take j).filter fun t => match ra with | none => true | some s => decide (kcol r t.1 ≠ kcol s t.1)).map fun t => V.int (t.1 : Int))) ∧ Same H H') ⟨upd_same, Rs.Same.new hD⟩ ?_ ?_ ?_
  · rintro j H' _ ⟨_, s⟩
    exact SqL.of (s _ _ et)
  · rintro j v H' hj ⟨hd, s⟩
    obtain ⟨t, ht, c, rfl, ec⟩ := P2.get pt hj
    have htm := List.mem_of_getElem? ht
    have hjl := (List.getElem?_eq_some_iff.mp ht).1
    have hc := hcol t htm
    have flen : (((o.take j).filter fun t => match ra with | none => true | some s => decide (kcol r t.1 ≠ kcol s t.1)).map fun t => V.int (t.1 : Int)).length ≤ 4 := by
      rw [List.length_map]
      have := List.length_filter_le (fun t : Nat × Bool => match ra with | none => true | some s => decide (kcol r t.1 ≠ kcol s t.1)) (o.take j)
      rw [List.length_take] at this
      omega
    have tk : o.take (j + 1) = o.take j ++ [t] := by rw [List.take_succ, ht] <;> rfl
    refine ⟨c, _, rfl, SqT.of (s _ _ ec), rfl, _, _, rfl, _, _, rfl, rfl, rfl, ?_⟩
    refine ⟨_, rfl, sz0, fun e he => ?_⟩
    have s1 : Same H (upd H' e (.tup [])) := s.trans (Rs.Same.new he)
    have hd1 := un (u := .tup []) hd he
    have ee : upd H' e (.tup []) e = some (.tup []) := upd_same
    generalize upd H' e (.tup []) = H1 at s1 hd1 ee
    cases ra with
    | none =>
      obtain ⟨ea, rfl, ha⟩ := ha
      refine ⟨.tuple [], .tuple [], .tup (SqT.of (s1 _ _ ha)) .nil, .tup (SqT.of ee) .nil, by decide +kernel, by decide +kernel, _, rfl, ?_⟩
      have e0 : PyData.eqv (.tuple []) (.tuple []) = true := rfl
      rw [e0]
      refine ⟨_, rfl, _, hd1, szlt (by omega), ?_, Rs.Same.mut s1 hD⟩
      rw [upd_same, tk, List.filter_append, List.map_append]
      rfl
    | some s0 =>
      obtain ⟨hs, gs, hk0⟩ := ha
      have t1 := TupLe.same s1
      have hr1 := RowAt.st _ _ _ _ t1 hr
      have hs1 := RowAt.st _ _ _ _ t1 hs
      refine ⟨rowD s0, .tuple [], row_dp hs1, .tup (SqT.of ee) .nil, (row_ok gs (by omega) 0).shaped (by decide), by decide +kernel, _, rfl, ?_⟩
      have e0 : PyData.eqv (rowD s0) (.tuple []) = false := by
        have := isRow_len gs
        cases s0 with
        | nil => simp at this; omega
        | cons x xs => rfl
      rw [e0]
      have c1 : t.1 < r.length := by rw [isRow_len gr]; exact hc
      have c2 : t.1 < s0.length := by rw [isRow_len gs]; exact hc
      refine ⟨_, rfl, _, rfl, ixT hr1 (j := t.1) rfl (by rw [List.getElem?_map, kcol_get c1]; rfl) ⟨_, rfl, _, rfl, ixT hs1 (j := t.1) rfl (by rw [List.getElem?_map, kcol_get c2]; rfl) ⟨kV_scal (isValue_left (isRow_val gr hc) (isRow_val gs hc)), _, rfl, ?_⟩⟩⟩
      rw [kV_dec]
      by_cases e : kcol r t.1 = kcol s0 t.1
      · have ed : (!decide (kcol r t.1 = kcol s0 t.1)) = false := by rw [decide_eq_true e]; rfl
        rw [ed]
        refine ⟨?_, s1⟩
        rw [hd1, tk, List.filter_append]
        have : ([t].filter fun t => decide (kcol r t.1 ≠ kcol s0 t.1)) = [] := by simp [e]
        show _ = some (HO.lst (List.map _ (_ ++ ([t].filter fun t => decide (kcol r t.1 ≠ kcol s0 t.1)))))
        rw [this, List.append_nil]
      · have ed : (!decide (kcol r t.1 = kcol s0 t.1)) = true := by rw [decide_eq_false e]; rfl
        rw [ed]
        refine ⟨_, rfl, _, hd1, szlt (by omega), ?_, Rs.Same.mut s1 hD⟩
        rw [upd_same, tk, List.filter_append, List.map_append]
        have : ([t].filter fun t => decide (kcol r t.1 ≠ kcol s0 t.1)) = [t] := by simp [e]
        show _ = some (HO.lst (_ ++ (List.map _ ([t].filter fun t => decide (kcol r t.1 ≠ kcol s0 t.1)))))
        rw [this]
        rfl
  · rintro H' ⟨hd, s⟩
    rw [List.take_of_length_le (by omega)] at hd
    exact q D H' s hD hd
theorem pure_law {K : PySem.W.Frag} : ∀ vs H Q E, sp_law K vs H Q E → t_law K E { nx := fun _ H' => Q .non H', rt := Q } (start N_law vs) H := by
  intro vs H Q E h
  unfold sp_law at h
  match vs, h with
  | [s], h =>
    obtain ⟨p, ns, rfl, hs, hns, k⟩ := h
    refine ⟨_, rfl, p, ns, rfl, hs, hns, fun a l H1 _ _ B1 _ => ?_⟩
    refine ⟨_, rfl, by decide, by decide, ?_⟩
    refine for_range (lo := 0) (n := (2 : Int).toNat) (fun i σ H' => Box H' a l ∧ ∃ x2 x3 x4 x5 x6 x7 x8 x9 x10 x11 x12 x13 x14 x15 x16 x17, σ = [some (.ref p), some (.ref a), x2, x3, x4, x5, x6, x7, x8, x9, x10, x11, x12, x13, x14, x15, x16, x17]) ⟨B1, _, _, _, _, _, _, _, _, _, _, _, _, _, _, _, _, rfl⟩ ?_ ?_
    · rintro i σ H2 hi ⟨B2, x2, x3, x4, x5, x6, x7, x8, x9, x10, x11, x12, x13, x14, x15, x16, x17, rfl⟩
      refine ⟨_, rfl, a, l, rfl, B2, fun kv ks H3 hk gk B3 k3 => ?_⟩
      refine ⟨_, rfl, _, rfl, a, l, ks, rfl, B3, hk, gk, fun lo o H4 nlo Lo go B4 k4 => ?_⟩
      have flo := B3.fresh nlo
      have hk4 := KindsAt.st _ _ _ _ (B3.tup k4) hk
      refine ⟨_, rfl, _, rfl, a, l, ks, 120, rfl, rfl, by decide, by decide, B4, hk4, gk, fun lr rows H6 nlr Lr good hlen B6 k6 => ?_⟩
      have flr := B4.fresh nlr
      have hk6 := KindsAt.st _ _ _ _ (B4.tup k6) hk4
      have Lo6 := Lst.but TurnAt.st B4 k6 Lo flo
      refine ⟨_, rfl, a, l, _, rfl, rfl, by decide, by decide, B6, fun r1 H7 r10 r11 B7 k7 => ⟨_, _, rfl, rfl, ?_⟩⟩
      have hk := KindsAt.st _ _ _ _ (B6.tup k7) hk6
      have Lo := Lst.but TurnAt.st B6 k7 Lo6 flo
      have Lr := Lst.but RowAt.st B6 k7 Lr flr
      obtain ⟨size, es, hs1, hs2⟩ : ∃ size : Int, 1 + r1 = size ∧ 1 ≤ size ∧ size ≤ 24 := ⟨_, rfl, by omega, by omega⟩
      dsimp only
      rw [es]
      have rl : rows.length ≤ 120 := by omega
      have hol := go.len gk.le
      have pf := prs_fine good
      have pl2 := prs_len (rows := rows)
      have hcol := go.col
      have hks := gk.le
      -- filled, exchanged
      refine ⟨_, rfl, _, rfl, _, rfl, _, rfl, ks, o, size, rows, hk, gk, ⟨lo, rfl, Lo⟩, go, by omega, rfl, hs1, hs2, ⟨lr, rfl, Lr⟩, good, rl, fun f1 H8 nf1 R1 s8 => ?_⟩
      refine ⟨_, rfl, _, rfl, _, rfl, _, rfl, ks, o, size, rows, hk.same s8, gk, ⟨lo, rfl, Lo.same TurnAt.st s8⟩, go, by omega, rfl, hs1, hs2, ⟨lr, rfl, Lr.same RowAt.st s8⟩, good, rl, fun f2 H9 nf2 R2 s9 => ⟨_, _, rfl, ?_⟩⟩
      obtain ⟨p1, p2, p3⟩ := parts_spec hcol hs1 pf
      obtain ⟨q1, q2, q3⟩ := runsOf_spec hcol hs1 pf
      have le := runs_le_parts hcol hs1 pf
      have s79 := s8.trans s9
      have R1 := Runs.same R1 s9
      -- they are right
      refine ⟨_, rfl, _, rfl, _, rfl, ks, o, rows, _, _, _, f1, ⟨lo, rfl, Lo.same TurnAt.st s79⟩, ⟨lr, rfl, Lr.same RowAt.st s79⟩, rfl, R1, hcol, hks, good, rl, p1, p2, fun H10 s10 => ⟨_, rfl, ?_⟩⟩
      have s7a := s79.trans s10
      refine ⟨_, rfl, _, rfl, _, rfl, ks, o, rows, _, _, _, f2, ⟨lo, rfl, Lo.same TurnAt.st s7a⟩, ⟨lr, rfl, Lr.same RowAt.st s7a⟩, rfl, Runs.same R2 s10, hcol, hks, good, rl, q1, q2, fun H11 s11 => ⟨_, rfl, ?_⟩⟩
      have s7b := s7a.trans s11
      have R1 := Runs.same R1 (s10.trans s11)
      have R2 := Runs.same R2 (s10.trans s11)
      obtain ⟨v1, e1, w1⟩ := R1
      obtain ⟨v2, e2, w2⟩ := R2
      have R1 : Lst (RunAt H7 []) H11 f1 (parts o size (prs rows)) := ⟨v1, e1, w1⟩
      have R2 : Lst (RunAt H8 []) H11 f2 (runsOf o size (prs rows)) := ⟨v2, e2, w2⟩
      have l1 := w1.length
      have l2 := w2.length
      refine ⟨_, rfl, lenL e2 rfl ⟨_, rfl, lenL e1 rfl ⟨_, _, rfl, rfl, _, rfl, ?_⟩⟩⟩
      have ed : decide ((v1.length : Int) < (v2.length : Int)) = false := decide_eq_false (by omega)
      rw [ed]
      -- as long as the room
      refine ⟨_, rfl, k04_ne R1 p3 fun H12 s12 => ?_⟩
      have R2 := Runs.same R2 s12
      refine ⟨_, rfl, k04_lt R2 q3 fun H13 s13 => ?_⟩
      have s7d := (s7b.trans s12).trans s13
      clear R1 R2 e1 e2 w1 w2 l1 l2 ed s79 s7a s7b s10 s11 s12 s13 s8 s9 p1 p2 p3 q1 q2 q3 le
      -- rising rows
      refine ⟨_, rfl, _, rfl, rows, ⟨lr, rfl, Lr.same RowAt.st s7d⟩, by omega, fun lp H14 nlp Lp s14 => ?_⟩
      refine ⟨ks, o, prs rows, ⟨lo, rfl, Lo.same TurnAt.st (s7d.trans s14)⟩, ⟨lp, rfl, Lp⟩, hcol, pf, by omega, fun fs ys H15 nfs Ls py uy s15 => ?_⟩
      have fy : Fine ks ys := pf.perm py
      have ly := py.length_eq
      obtain ⟨yv, ey, py2⟩ := Ls
      have lyv := py2.length
      refine ⟨fs, rfl, ⟨_, SqL.of ey⟩, fun D hD => ?_⟩
      have s7f := (s7d.trans s14).trans s15
      refine lc_list (K := K) (a := fs) (xs := yv) (fun j H' => Lst RowAt H' D ((ys.take j).map (·.2)) ∧ Same H15 H') ⟨⟨[], upd_same, .nil⟩, Rs.Same.new hD⟩ ?_ ?_ ?_
      · rintro j H' _ ⟨_, s⟩
        exact SqL.of (s _ _ ey)
      · rintro j v H' hj ⟨⟨rv, er, pr⟩, s⟩
        obtain ⟨q, hq, w, ⟨t, rfl, et⟩, hw⟩ := P2.get py2 hj
        have rvl := pr.length
        rw [List.length_map, List.length_take] at rvl
        refine ⟨t, _, rfl, SqT.of (s _ _ et), rfl, _, _, rfl, _, _, rfl, rfl, rfl, lc_yes ⟨_, rfl, rv, er, szlt (by omega), ⟨_, upd_same, ?_⟩, Rs.Same.mut s hD⟩⟩
        rw [List.take_succ, hq, List.map_append]
        have t1 : TupLe H' (upd H' D (.lst (rv ++ [w]))) := (TupLe.refl _).list er
        exact P2.app (Paired.tl RowAt.st t1 pr) (P2.one (RowAt.st _ _ _ _ ((TupLe.same s).trans t1) hw))
      rintro H16 ⟨LD, s16⟩
      rw [List.take_of_length_le (by omega)] at LD
      have s7g := s7f.trans s16
      have goody : ∀ r ∈ ys.map (·.2), isRow ks r = true := fun r hr => by
        obtain ⟨q, hq, rfl⟩ := List.mem_map.mp hr
        exact fy.row q hq
      have lym : (ys.map (·.2)).length ≤ 120 := by rw [List.length_map]; omega
      refine ⟨_, rfl, _, rfl, _, rfl, _, rfl, ks, o, size, ys.map (·.2), hk.same s7g, gk, ⟨lo, rfl, Lo.same TurnAt.st s7g⟩, go, by omega, rfl, hs1, hs2, ⟨D, rfl, LD⟩, goody, lym, fun f3 H17 nf3 R3 s17 => ?_⟩
      obtain ⟨v3, e3, w3⟩ := R3
      have l3 := w3.length
      rw [runs_rise hcol hs1 (prs_fine goody) (prs_rise uy)] at l3
      have s7h := s7g.trans s17
      obtain ⟨vr, er, pr⟩ := Lr
      have lrr := pr.length
      refine lenL e3 rfl ⟨_, rfl, sz0, fun pe hpe => neE (s7h _ _ er) hpe (b := !vr.isEmpty) rfl (.inr ⟨_, rfl, rfl, _, rfl, ?_⟩)⟩
      have ee : (!decide (V.int (v3.length : Int) = V.int (if (!vr.isEmpty) = true then 1 else 0))) = false := by
        rw [l3]
        cases hv : vr with
        | nil =>
          rw [hv] at lrr
          have : ys = [] := List.length_eq_zero_iff.mp (by rw [ly, pl2]; exact lrr.symm)
          rw [this]
          rfl
        | cons c cr =>
          rw [hv, List.length_cons] at lrr
          have : prs (ys.map (·.2)) ≠ [] := fun z => by
            have := congrArg List.length z
            rw [prs_len, List.length_map, List.length_nil] at this
            omega
          rw [if_neg this]
          rfl
      rw [ee]
      have s7i := s7h.trans (Rs.Same.new (o := .lst []) hpe)
      have LD1 : Lst RowAt (upd H17 pe (.lst [])) D (ys.map (·.2)) := (LD.same RowAt.st s17).same RowAt.st (Rs.Same.new hpe)
      generalize upd H17 pe (.lst []) = H18 at s7i LD1
      clear e3 w3 l3 ee LD s7h s17 s16 s7g hD ey py2 lyv s15 s7f s14 s7d
      obtain ⟨dv, ed, pd⟩ := LD1
      -- falling rows
      refine ⟨sz0, fun lf hlf => ?_⟩
      refine ⟨_, rfl, D, dv, rfl, SqL.of (un ed hlf), fun rv hrv => ⟨rv, rfl, ⟨_, SqL.of upd_same⟩, ?_⟩⟩
      have prv : Paired (RowAt H18) dv.reverse (ys.reverse.map (·.2)) := by rw [List.map_reverse]; exact P2.rev pd
      have ldv := pd.length
      rw [List.length_map] at ldv
      have zup : ys.reverse.Pairwise fun a b => before o b a = true := List.pairwise_reverse.mpr uy
      have zrow : ∀ q ∈ ys.reverse, isRow ks q.2 = true := fun q hq => fy.row q (List.mem_reverse.mp hq)
      have flf : H18 lf = none := hlf
      have nfr : lf ≠ rv := ne_of_none upd_same hrv
      refine for_list (K := K) (a := rv) (xs := dv.reverse) (fun j σ H' => ∃ (x11 x12 x13 : Option V) (fps : List Pr), σ = [some (.ref p), some (.ref a), some (.int (0 + (i : Int))), some kv, some (.ref lo), some (.ref lr), some (.int size), some (.ref f1), some (.ref f2), some (.ref D), some (.ref lf), x11, x12, x13, x14, x15, x16, x17] ∧
          Same H18 H' ∧ H' rv = some (.lst dv.reverse) ∧ Lst RowAt H' lf (fps.map (·.2)) ∧ fps.length ≤ j ∧ (∀ q ∈ fps, q ∈ ys.reverse.take j) ∧ fps.Pairwise fun a b => kb o b.2 a.2 = true)
        ⟨x11, x12, x13, [], rfl, (Rs.Same.new hlf).trans (Rs.Same.new hrv), upd_same, ⟨[], up upd_same nfr, .nil⟩, Nat.le_refl _, by simp, .nil⟩ ?_ ?_ ?_
      · rintro j σ H' _ ⟨_, _, _, _, _, _, hrv', _⟩
        exact SqL.of hrv'
      · rintro j v σ H' hj ⟨x11, x12, x13, fps, rfl, s', hrv', ⟨fv, ef, pfv⟩, hlen', hin, hfall⟩
        have lfv := pfv.length
        rw [List.length_map] at lfv
        have hjl := (List.getElem?_eq_some_iff.mp hj).1
        rw [List.length_reverse] at hjl
        obtain ⟨r, hr, hvr⟩ := P2.get prv hj
        rw [List.getElem?_map] at hr
        obtain ⟨y, hy, rfl⟩ := Option.map_eq_some_iff.mp hr
        have ry := zrow y (List.mem_of_getElem? hy)
        have hvr := RowAt.st _ _ _ _ (TupLe.same s') hvr
        -- the rest of the turn, from what is ahead
        have rest : ∀ (wa : V) (ra : Option Row) (H1 : Hp), Same H' H1 → (match ra with | none => IsTp H1 wa [] | some s => RowAt H1 wa s ∧ isRow ks s = true ∧ 0 < ks.length) →
            (ra = none → fps = []) → (∀ s, ra = some s → ∃ f0 g, fps = f0 ++ [g] ∧ g.2 = s) → ∀ D' : Ends, (∀ σ2 H2, (∃ (x11 x12 x13 : Option V) (fps : List Pr), σ2 = [some (.ref p), some (.ref a), some (.int (0 + (i : Int))), some kv, some (.ref lo), some (.ref lr), some (.int size), some (.ref f1), some (.ref f2), some (.ref D), some (.ref lf), x11, x12, x13, x14, x15, x16, x17] ∧
              Same H18 H2 ∧ H2 rv = some (.lst dv.reverse) ∧ Lst RowAt H2 lf (fps.map (·.2)) ∧ fps.length ≤ j + 1 ∧ (∀ q ∈ fps, q ∈ ys.reverse.take (j + 1)) ∧ fps.Pairwise fun a b => kb o b.2 a.2 = true) → D'.nx σ2 H2) →
            ((tSeq (tAsg (tLc (iList K (tVar 4)) (gTup K 2 (gCons (gName 16) (gCons (gName 17) gNil))) (tOr (tTest (tOp (rEqD K) (tVar 12) (tTup tNil))) (tTest (tOp rNe (tOp (rIxT K) (tVar 11) (tVar 16)) (tOp (rIxT K) (tVar 12) (tVar 16))))) (tVar 16) [16, 17]) (gName 13))
                   (tIfS (tTest (tOp (xNeE K) (tVar 13) (tLst tNil))) (tDrop (tBM K "list" rAppend (tVar 10) (tCons (tVar 11) tNil))) tNext)) : TS) D'
              [some (.ref p), some (.ref a), some (.int (0 + (i : Int))), some kv, some (.ref lo), some (.ref lr), some (.int size), some (.ref f1), some (.ref f2), some (.ref D), some (.ref lf), some v, some wa, x13, x14, x15, x16, x17] H1 := by
          intro wa ra H1 s1 hra hnone hsome D' hD'
          have sH1 := s'.trans s1
          have tk : ys.reverse.take (j + 1) = ys.reverse.take j ++ [y] := by rw [List.take_succ, hy] <;> rfl
          unfold tSeq tAsg
          dsimp only
          refine unlike_lc (ra := ra) ((Lo.same TurnAt.st s7i).same TurnAt.st sH1) hcol hks hol (RowAt.st _ _ _ _ (TupLe.same s1) hvr) ry hra fun U H2 s2 hU eU => ?_
          refine ne_test (l := U) rfl eU fun H3 s3 => ?_
          have sH3 := (sH1.trans s2).trans s3
          have ef3 := ((s1.trans s2).trans s3) _ _ ef
          have hrv3 := ((s1.trans s2).trans s3) _ _ hrv'
          have pfv3 := Paired.tl RowAt.st (TupLe.same ((s1.trans s2).trans s3)) pfv
          have keep : ∀ q ∈ fps, q ∈ ys.reverse.take (j + 1) := fun q hq => by rw [tk]; exact List.mem_append_left _ (hin q hq)
          by_cases hu : (o.filter fun t => match ra with | none => true | some s => decide (kcol y.2 t.1 ≠ kcol s t.1)) = []
          · rw [hu]
            exact hD' _ _ ⟨_, _, _, fps, rfl, sH3, hrv3, ⟨fv, ef3, pfv3⟩, by omega, keep, hfall⟩
          · have en : (!((o.filter fun t => match ra with | none => true | some s => decide (kcol y.2 t.1 ≠ kcol s t.1)).map fun t => V.int (t.1 : Int)).isEmpty) = true := by
              cases hf : (o.filter fun t => match ra with | none => true | some s => decide (kcol y.2 t.1 ≠ kcol s t.1)) with
              | nil => exact absurd hf hu
              | cons => rfl
            rw [en]
            refine ⟨_, rfl, .inl ⟨rfl, _, SqL.of ef3⟩, _, rfl, lf, _, _, rfl, rfl, ef3, szlt (by omega), hD' _ _ ?_⟩
            have t4 : TupLe H3 (upd H3 lf (.lst (fv ++ [v]))) := (TupLe.refl _).list ef3
            refine ⟨_, _, _, fps ++ [y], rfl, Rs.Same.mut sH3 flf, up hrv3 nfr.symm, ⟨_, upd_same, ?_⟩, by rw [List.length_append, List.length_singleton]; omega, ?_, ?_⟩
            · rw [List.map_append]
              exact P2.app (Paired.tl RowAt.st t4 pfv3) (P2.one (RowAt.st _ _ _ _ ((TupLe.same ((s1.trans s2).trans s3)).trans t4) hvr))
            · intro q hq
              rcases List.mem_append.mp hq with z | z
              · exact keep q z
              · rw [tk]; exact List.mem_append_right _ z
            · refine List.pairwise_append.mpr ⟨hfall, List.pairwise_singleton _ _, fun q hq b hb => ?_⟩
              rw [List.mem_singleton.mp hb]
              cases ra with
              | none => rw [hnone rfl] at hq; simp at hq
              | some s0 =>
                obtain ⟨f0, g, efp, eg⟩ := hsome s0 rfl
                have gin : g ∈ fps := by rw [efp]; simp
                have gz := hin g gin
                have bg : before o y g = true := by
                  have hz := zup
                  rw [← List.take_append_drop j ys.reverse] at hz
                  refine (List.pairwise_append.mp hz).2.2 g gz y ?_
                  rw [drop_cons hy]
                  exact List.mem_cons_self ..
                obtain ⟨t, ht⟩ := List.exists_mem_of_ne_nil _ hu
                obtain ⟨ht1, ht2⟩ := List.mem_filter.mp ht
                have ht2 : kcol y.2 t.1 ≠ kcol s0 t.1 := of_decide_eq_true ht2
                rw [← eg] at ht2
                have kyg := kb_of o bg ⟨t, ht1, ht2⟩
                have rg := zrow g (List.mem_of_mem_take gz)
                rw [efp] at hq hfall
                rcases List.mem_append.mp hq with z | z
                · have kgq := (List.pairwise_append.mp hfall).2.2 q z g (by simp)
                  have rq := zrow q (List.mem_of_mem_take (hin q (by rw [efp]; exact List.mem_append_left _ z)))
                  exact kb_trans hcol ry rg rq kyg kgq
                · rw [List.mem_singleton.mp z]; exact kyg
        refine ne_test (l := lf) rfl ef fun H1 s1 => ?_
        cases hfv : fv with
        | nil =>
          rw [hfv] at lfv
          refine ⟨sz0, fun t ht => ?_⟩
          exact rest (.ref t) none _ (s1.trans (Rs.Same.new ht)) ⟨t, rfl, upd_same⟩ (fun _ => List.length_eq_zero_iff.mp lfv.symm) (fun s hs => by cases hs) _ fun _ _ h => h
        | cons c cr =>
          have hne : fv ≠ [] := by rw [hfv]; simp
          obtain ⟨w0, wx, ew⟩ : ∃ w0 wx, fv = w0 ++ [wx] := ⟨fv.dropLast, fv.getLast hne, (List.dropLast_concat_getLast hne).symm⟩
          have hne2 : fps ≠ [] := by intro z; rw [z, hfv] at lfv; simp at lfv
          obtain ⟨f0, g, eg⟩ : ∃ f0 g, fps = f0 ++ [g] := ⟨fps.dropLast, fps.getLast hne2, (List.dropLast_concat_getLast hne2).symm⟩
          have hg : RowAt H' wx g.2 := by
            rw [ew, eg, List.map_append] at pfv
            exact P2.last pfv
          have ef1 := s1 _ _ ef
          rw [ew] at ef1
          refine ⟨_, rfl, ixLast ef1 ?_⟩
          refine rest wx (some g.2) _ s1 ⟨RowAt.st _ _ _ _ (TupLe.same s1) hg, zrow g (List.mem_of_mem_take (hin g (by rw [eg]; simp))), gk.pos⟩ (fun z => by cases z) (fun s hs => ⟨f0, g, eg, by cases hs; rfl⟩) _ fun _ _ h => h
      · rintro σ H19 ⟨x11, x12, x13, fps, rfl, s', _, Lf, hlen', hin, hfall⟩
        have gf : ∀ r ∈ fps.map (·.2), isRow ks r = true := fun r hr => by
          obtain ⟨q, hq, rfl⟩ := List.mem_map.mp hr
          exact zrow q (List.mem_of_mem_take (hin q hq))
        have ll : (fps.map (·.2)).length ≤ 120 := by rw [List.length_map]; rw [List.length_reverse] at hlen'; omega
        have sx := s7i.trans s'
        refine ⟨_, rfl, _, rfl, _, rfl, _, rfl, ks, o, size, fps.map (·.2), hk.same sx, gk, ⟨lo, rfl, Lo.same TurnAt.st sx⟩, go, by omega, rfl, hs1, hs2, ⟨lf, rfl, Lf⟩, gf, ll, fun f4 H20 nf4 R4 s20 => ?_⟩
        refine k04_ne (H0 := H19) (S := []) R4 (runs_fall hs1 (prs_fine gf) (prs_fall (List.pairwise_map.mpr hfall))) fun H21 s21 => ?_
        exact ⟨B7.same ((sx.trans s20).trans s21), _, _, _, _, _, _, _, _, _, _, _, _, _, _, _, _, rfl⟩
    · rintro σ H' ⟨_, x2, x3, x4, x5, x6, x7, x8, x9, x10, x11, x12, x13, x14, x15, x16, x17, rfl⟩
      exact k H'
end Rs

/-! the head: facts by names, told over the objects that the module's names reach -/
namespace Hx
open PySem PySem.Spec PyProof.Rows L2
def obj1 (g : Addr → Option Obj) (v : Value) : List Addr := match v with
  | .ref b => (match g b with
    | some ⟨_, _, .func fd, _⟩ => b :: (He.refV fd.code ++ He.refV fd.defaults)
    | _ => [b])
  | _ => []
def obj2 (g : Addr → Option Obj) (v : Value) : List Addr := match v with
  | .ref b => (match g b with
    | some ⟨_, _, .func fd, _⟩ => b :: (He.refV fd.code ++ He.refV fd.defaults)
    | some ⟨_, _, .cls cd, _⟩ => b :: cd.ns :: (match g cd.ns with
      | some ⟨_, _, .dict es _, _⟩ => es.toList.flatMap fun e => obj1 g e.val
      | _ => [])
    | _ => [b])
  | _ => []
def asX (g : Addr → Option Obj) : List Addr := mainGlobals :: (match g mainGlobals with
  | some ⟨_, _, .dict es _, _⟩ => es.toList.flatMap fun e => obj2 g e.val
  | _ => [])
abbrev Fs : Type := List (PySem.W.Frag → Bool)
def obsM (fs : Fs) (fn : List He.DefD) (K : PySem.W.Frag) : He.AlD := ((fs.all fun f => f K) && fn.all fun d => d.ok K, fn.map fun d => He.fnW K d.at_)
def SaysM (fs : Fs) (fn : List He.DefD) (K : PySem.W.Frag) : Prop := obsM fs fn K = He.valD fn
def obsMG (fs : Fs) (fn : List He.DefD) (g : Addr → Option Obj) : He.AlD := obsM fs fn (He.frG g (asX g))
def hookM (fs : Fs) (fn : List He.DefD) : PySem.W.Hook where
  α := He.AlD
  obs := fun s => obsMG fs fn s.heap.get?
  val := fun _ => He.valD fn
  says := fun _ h => ∃ K : PySem.W.Frag, K.In h ∧ SaysM fs fn K
  of := fun _ _ e => ⟨_, He.frG_in, e⟩
  keeps := fun _ _ _ ⟨K, hK, c⟩ k => ⟨K, PySem.W.Frag.In.keeps hK k, c⟩
theorem obsMG_eq {fs : Fs} {fn : List He.DefD} {g : Addr → Option Obj} {s : Shared} (h : ∀ a, g a = s.heap.get? a) : obsMG fs fn g = (hookM fs fn).obs s := by
  have e : g = s.heap.get? := funext h
  rw [e] <;> rfl
section
variable {fs : Fs} {fn : List He.DefD} {K : PySem.W.Frag}
theorem SaysM.fact (c : SaysM fs fn K) (i : Nat) {f : PySem.W.Frag → Bool} (h : fs[i]? = some f := by rfl) : f K = true := by
  have c1 := (He.ba (show ((fs.all fun f => f K) && fn.all fun d => d.ok K) = true from congrArg (fun z : He.AlD => z.1) c)).1
  exact List.all_eq_true.mp c1 f (List.mem_of_getElem? h)
theorem SaysM.def_ (c : SaysM fs fn K) (i : Nat) {d : He.DefD} (h : fn[i]? = some d := by rfl) : ∃ fd, FunD K d.name d.qual d.params d.body d.scope (d.dvs K) (d.kws K) (He.fAd K d.at_) fd := by
  have c2 := (He.ba (show ((fs.all fun f => f K) && fn.all fun d => d.ok K) = true from congrArg (fun z : He.AlD => z.1) c)).2
  have e : fn.map (fun d => He.fnW K d.at_) = fn.map He.DefD.val := congrArg (fun z : He.AlD => z.2) c
  have e2 : (fn.map fun d => He.fnW K d.at_)[i]? = (fn.map He.DefD.val)[i]? := by rw [e]
  rw [List.getElem?_map, List.getElem?_map, h] at e2
  exact He.DefD.funD (Option.some.inj e2) (List.all_eq_true.mp c2 d (List.mem_of_getElem? h))
end
end Hx

namespace Lw
open PySem PySem.Spec PyProof.Rows L2 Rs
/-! ### the text by places -/
def top (i : Nat) : Stmt := PySem.Challenge.pw_runsorts_k04_whole_what_runs_are.main.body.getD i (.Pass ⟨0, 0, 0, 0⟩)
abbrev s_law_begun : Stmt := top 36
def d_law_begun : He.DefD := ⟨("_law_begun", none), "_law_begun", "_law_begun", defArgs s_law_begun, defBody s_law_begun, defScope s_law_begun, [], []⟩
abbrev s_law_take : Stmt := top 37
def d_law_take : He.DefD := ⟨("_law_take", none), "_law_take", "_law_take", defArgs s_law_take, defBody s_law_take, defScope s_law_take, [], []⟩
abbrev s_law_kinds : Stmt := top 38
def d_law_kinds : He.DefD := ⟨("_law_kinds", none), "_law_kinds", "_law_kinds", defArgs s_law_kinds, defBody s_law_kinds, defScope s_law_kinds, [], []⟩
abbrev s_law_order : Stmt := top 39
def d_law_order : He.DefD := ⟨("_law_order", none), "_law_order", "_law_order", defArgs s_law_order, defBody s_law_order, defScope s_law_order, [], []⟩
abbrev s_law_value : Stmt := top 40
def d_law_value : He.DefD := ⟨("_law_value", none), "_law_value", "_law_value", defArgs s_law_value, defBody s_law_value, defScope s_law_value, [], []⟩
abbrev s_law_rows : Stmt := top 41
def d_law_rows : He.DefD := ⟨("_law_rows", none), "_law_rows", "_law_rows", defArgs s_law_rows, defBody s_law_rows, defScope s_law_rows, [], []⟩
abbrev s_need_kinds : Stmt := top 16
def d_need_kinds : He.DefD := ⟨("need_kinds", none), "need_kinds", "need_kinds", defArgs s_need_kinds, defBody s_need_kinds, defScope s_need_kinds, [], []⟩
abbrev s_is_turn : Stmt := top 17
def d_is_turn : He.DefD := ⟨("is_turn", none), "is_turn", "is_turn", defArgs s_is_turn, defBody s_is_turn, defScope s_is_turn, [], []⟩
abbrev s_need_order : Stmt := top 18
def d_need_order : He.DefD := ⟨("need_order", none), "need_order", "need_order", defArgs s_need_order, defBody s_need_order, defScope s_need_order, [], []⟩
abbrev s_Room___init__ : Stmt := inClass (top 27) 0
def d_Room___init__ : He.DefD := ⟨("Room", some "__init__"), "__init__", "Room.__init__", defArgs s_Room___init__, defBody s_Room___init__, defScope s_Room___init__, [], []⟩
abbrev s_Maker___init__ : Stmt := inClass (top 33) 0
def d_Maker___init__ : He.DefD := ⟨("Maker", some "__init__"), "__init__", "Maker.__init__", defArgs s_Maker___init__, defBody s_Maker___init__, defScope s_Maker___init__, [], []⟩
abbrev s_is_value : Stmt := top 19
def d_is_value : He.DefD := ⟨("is_value", none), "is_value", "is_value", defArgs s_is_value, defBody s_is_value, defScope s_is_value, [], []⟩
abbrev s_is_row : Stmt := top 20
def d_is_row : He.DefD := ⟨("is_row", none), "is_row", "is_row", defArgs s_is_row, defBody s_is_row, defScope s_is_row, [], []⟩
abbrev s_need_rows : Stmt := top 21
def d_need_rows : He.DefD := ⟨("need_rows", none), "need_rows", "need_rows", defArgs s_need_rows, defBody s_need_rows, defScope s_need_rows, [], []⟩
abbrev s_need_making : Stmt := top 31
def d_need_making : He.DefD := ⟨("need_making", none), "need_making", "need_making", defArgs s_need_making, defBody s_need_making, defScope s_need_making, [], []⟩
abbrev s_numbered : Stmt := top 25
def d_numbered : He.DefD := ⟨("numbered", none), "numbered", "numbered", defArgs s_numbered, defBody s_numbered, defScope s_numbered, [], []⟩
abbrev s_is_before : Stmt := top 22
def d_is_before : He.DefD := ⟨("is_before", none), "is_before", "is_before", defArgs s_is_before, defBody s_is_before, defScope s_is_before, [], []⟩
abbrev s_joined : Stmt := top 23
def d_joined : He.DefD := ⟨("joined", none), "joined", "joined", defArgs s_joined, defBody s_joined, defScope s_joined, [], []⟩
abbrev s_in_order : Stmt := top 24
def d_in_order : He.DefD := ⟨("in_order", none), "in_order", "in_order", defArgs s_in_order, defBody s_in_order, defScope s_in_order, [], []⟩
abbrev s_filled : Stmt := top 32
def d_filled : He.DefD := ⟨("filled", none), "filled", "filled", defArgs s_filled, defBody s_filled, defScope s_filled, [], []⟩
abbrev s_Maker_turn : Stmt := inClass (top 33) 4
def d_Maker_turn : He.DefD := ⟨("Maker", some "turn"), "turn", "Maker.turn", defArgs s_Maker_turn, defBody s_Maker_turn, defScope s_Maker_turn, [], []⟩
abbrev s_Room_many_in : Stmt := inClass (top 27) 7
def d_Room_many_in : He.DefD := ⟨("Room", some "many_in"), "many_in", "Room.many_in", defArgs s_Room_many_in, defBody s_Room_many_in, defScope s_Room_many_in, [], []⟩
abbrev s_Room_first_run : Stmt := inClass (top 27) 6
def d_Room_first_run : He.DefD := ⟨("Room", some "first_run"), "first_run", "Room.first_run", defArgs s_Room_first_run, defBody s_Room_first_run, defScope s_Room_first_run, [], []⟩
abbrev s_Room_swap : Stmt := inClass (top 27) 3
def d_Room_swap : He.DefD := ⟨("Room", some "swap"), "swap", "Room.swap", defArgs s_Room_swap, defBody s_Room_swap, defScope s_Room_swap, [], []⟩
abbrev s_Room_is_less : Stmt := inClass (top 27) 1
def d_Room_is_less : He.DefD := ⟨("Room", some "is_less"), "is_less", "Room.is_less", defArgs s_Room_is_less, defBody s_Room_is_less, defScope s_Room_is_less, [], []⟩
abbrev s_Room_lesser : Stmt := inClass (top 27) 4
def d_Room_lesser : He.DefD := ⟨("Room", some "lesser"), "lesser", "Room.lesser", defArgs s_Room_lesser, defBody s_Room_lesser, defScope s_Room_lesser, [], []⟩
abbrev s_Room_take : Stmt := inClass (top 27) 5
def d_Room_take : He.DefD := ⟨("Room", some "take"), "take", "Room.take", defArgs s_Room_take, defBody s_Room_take, defScope s_Room_take, [], []⟩
abbrev s_Maker_goes : Stmt := inClass (top 33) 3
def d_Maker_goes : He.DefD := ⟨("Maker", some "goes"), "goes", "Maker.goes", defArgs s_Maker_goes, defBody s_Maker_goes, defScope s_Maker_goes, [], []⟩
abbrev s_Maker_has_space : Stmt := inClass (top 33) 1
def d_Maker_has_space : He.DefD := ⟨("Maker", some "has_space"), "has_space", "Maker.has_space", defArgs s_Maker_has_space, defBody s_Maker_has_space, defScope s_Maker_has_space, [], []⟩
abbrev s_Room_put : Stmt := inClass (top 27) 2
def d_Room_put : He.DefD := ⟨("Room", some "put"), "put", "Room.put", defArgs s_Room_put, defBody s_Room_put, defScope s_Room_put, [], []⟩
abbrev s_Maker_come : Stmt := inClass (top 33) 2
def d_Maker_come : He.DefD := ⟨("Maker", some "come"), "come", "Maker.come", defArgs s_Maker_come, defBody s_Maker_come, defScope s_Maker_come, [], []⟩
abbrev s_exchanged : Stmt := top 34
def d_exchanged : He.DefD := ⟨("exchanged", none), "exchanged", "exchanged", defArgs s_exchanged, defBody s_exchanged, defScope s_exchanged, [], []⟩
abbrev s_law_pairs : Stmt := top 44
def d_law_pairs : He.DefD := ⟨("_law_pairs", none), "_law_pairs", "_law_pairs", defArgs s_law_pairs, defBody s_law_pairs, defScope s_law_pairs, [], []⟩
abbrev s_law_ahead : Stmt := top 42
def d_law_ahead : He.DefD := ⟨("_law_ahead", none), "_law_ahead", "_law_ahead", defArgs s_law_ahead, defBody s_law_ahead, defScope s_law_ahead, [], []⟩
abbrev s_law_right : Stmt := top 45
def d_law_right : He.DefD := ⟨("_law_right", none), "_law_right", "_law_right", defArgs s_law_right, defBody s_law_right, defScope s_law_right, [], []⟩
abbrev s_law_sorted : Stmt := top 43
def d_law_sorted : He.DefD := ⟨("_law_sorted", none), "_law_sorted", "_law_sorted", defArgs s_law_sorted, defBody s_law_sorted, defScope s_law_sorted, [], []⟩
abbrev s_law : Stmt := top 46
def d_law : He.DefD := ⟨("law", none), "law", "law", defArgs s_law, defBody s_law, defScope s_law, [], []⟩
def fn : List He.DefD := [d_law_begun, d_law_take, d_law_kinds, d_law_order, d_law_value, d_law_rows, d_need_kinds, d_is_turn, d_need_order, d_Room___init__, d_Maker___init__, d_is_value, d_is_row, d_need_rows, d_need_making, d_numbered, d_is_before, d_joined, d_in_order, d_filled, d_Maker_turn, d_Room_many_in, d_Room_first_run, d_Room_swap, d_Room_is_less, d_Room_lesser, d_Room_take, d_Maker_goes, d_Maker_has_space, d_Room_put, d_Maker_come, d_exchanged, d_law_pairs, d_law_ahead, d_law_right, d_law_sorted, d_law]
def fa : List He.Fa := [.free "list",
  .free "len",
  .free "int",
  .glo "_law_take",
  .free "range",
  .free "tuple",
  .glo "_law_value",
  .free "min",
  .free "max",
  .int "MOST_COLUMNS" 4,
  .str "NUMBER" "number",
  .str "WORD" "word",
  .str "UP" "up",
  .str "DOWN" "down",
  .glo "is_turn",
  .free "set",
  .mkr "Room",
  .glo "Room",
  .free "isinstance",
  .free "str",
  .int "MOST_LETTERS" 6,
  .str "LETTERS" "abcdefghijklmnopqrstuvwxyz",
  .free "bool",
  .int "MOST_NUMBER" 999,
  .glo "is_value",
  .free "enumerate",
  .glo "is_row",
  .glo "need_kinds",
  .glo "need_order",
  .int "MOST_ROOM" 24,
  .int "MOST_ROWS" 120,
  .glo "need_rows",
  .glo "is_before",
  .glo "in_order",
  .glo "joined",
  .glo "need_making",
  .glo "numbered",
  .meth "Room" "is_less",
  .cls "Room",
  .meth "Room" "swap",
  .meth "Room" "lesser",
  .meth "Room" "first_run",
  .meth "Room" "take",
  .meth "Room" "many_in",
  .meth "Room" "put",
  .mkr "Maker",
  .glo "Maker",
  .meth "Maker" "has_space",
  .cls "Maker",
  .meth "Maker" "come",
  .meth "Maker" "goes",
  .meth "Maker" "turn",
  .glo "_law_ahead",
  .free "sorted",
  .glo "_law_pairs",
  .glo "_law_begun",
  .glo "_law_kinds",
  .glo "_law_order",
  .glo "_law_rows",
  .glo "filled",
  .glo "exchanged",
  .glo "_law_right",
  .glo "_law_sorted",
  .glo "law",
  .noat "Maker" "order",
  .noat "Maker" "size",
  .noat "Maker" "room",
  .noat "Maker" "run",
  .noat "Maker" "last",
  .noat "Room" "order",
  .noat "Room" "cells"]
def fs : Hx.Fs := fa.map fun f K => f.ok K
structure Wd (K : PySem.W.Frag) (mg : Str → Option Value) : Prop where
  c : Hx.SaysM fs fn K
  X : ∃ h : Heap, K.In h ∧ h.Ns mainGlobals mg
section
variable {K : PySem.W.Frag} {mg : Str → Option Value}
theorem Wd.fact (W : Wd K mg) (i : Nat) {f : He.Fa} (h : fa[i]? = some f) : f.ok K = true := W.c.fact i (f := fun K => f.ok K) (by show (fa.map _)[i]? = _; rw [List.getElem?_map, h]; rfl)
theorem Wd.glo (W : Wd K mg) (i : Nat) {x : Str} (h : fa[i]? = some (.glo x)) : mg x = some (.ref (He.ga K x)) := let ⟨_, a, b⟩ := W.X; He.glo_ok a b (W.fact i h)
theorem Wd.free (W : Wd K mg) (i : Nat) {x : Str} (h : fa[i]? = some (.free x)) : mg x = none := let ⟨_, a, b⟩ := W.X; He.free_ok a b (W.fact i h)
theorem Wd.int (W : Wd K mg) (i : Nat) {x : Str} {z : Int} (h : fa[i]? = some (.int x z)) : ∃ t, mg x = some (.int z t) := let ⟨_, a, b⟩ := W.X; He.int_ok a b (W.fact i h)
theorem Wd.str (W : Wd K mg) (i : Nat) {x z : Str} (h : fa[i]? = some (.str x z)) : ∃ t, mg x = some (.str z t) := let ⟨_, a, b⟩ := W.X; He.str_ok a b (W.fact i h)
theorem Wd.cls (W : Wd K mg) (i : Nat) {x : Str} (h : fa[i]? = some (.cls x)) : Cls K (He.ga K x) := He.cls_ok (W.fact i h)
theorem Wd.noat (W : Wd K mg) (i : Nat) {x f : Str} (h : fa[i]? = some (.noat x f)) : NoAttr K (He.ga K x) f := He.noat_ok (W.fact i h)
theorem Wd.meth (W : Wd K mg) (i : Nat) {x m : Str} (h : fa[i]? = some (.meth x m)) : Meth K (He.ga K x) m (He.ma K (He.ga K x) m) := He.meth_ok (W.fact i h)
theorem Wd.mkr (W : Wd K mg) (i : Nat) {x : Str} (h : fa[i]? = some (.mkr x)) : Mk K (He.ga K x) (He.ma K (He.ga K x) "__init__") := He.mkr_ok (W.fact i h)
theorem Wd.txt_Maker (W : Wd K mg) : TxtMaker K := ⟨W.cls 48 rfl, W.noat 64 rfl, W.noat 65 rfl, W.noat 66 rfl, W.noat 67 rfl, W.noat 68 rfl⟩
theorem Wd.txt_Room (W : Wd K mg) : TxtRoom K := ⟨W.cls 38 rfl, W.noat 69 rfl, W.noat 70 rfl⟩
end
/-! ### each def keeps its promise -/
section
variable {P : Program} {w : World} {K : PySem.W.Frag} {mg : Str → Option Value} {base : Heap}
theorem sc_law_begun : FnScope N_law_begun P_law_begun (defScope s_law_begun) := ⟨rfl, rfl, rfl, by decide +kernel, rfl, by decide +kernel, by decide +kernel⟩
theorem ok_law_begun (W : Wd K mg) : Can P w K mg base 1 ("_law_begun", none) P_law_begun (sp_law_begun K) := by
  obtain ⟨fd, F⟩ := W.c.def_ 0 (d := d_law_begun) rfl
  refine can_of F (F.bindsN fun _ _ _ _ _ _ us hl => match us, hl with | [_], _ => rfl) sc_law_begun (fun vs H Q E h => by unfold sp_law_begun at h; match vs, h with | [_], _ => rfl) (t_law_begun K) (fun cdv A outer s H E hr => ?_) (pure_law_begun)
  have nd := sc_law_begun.nd
  exact (pss_cons (ps_set (i := 1) nd rfl (Or.inl rfl) pe_int)
    (pss_cons (ps_for (passes_of rfl) rfl (pi_list (pv 0)) (pg_name (i := 2) nd rfl (Or.inl rfl)) (pss_one (ps_set (i := 1) nd rfl (Or.inl rfl) (pe_opC op_mod (pe_opC op_add (pe_op op_add (pe_opC op_mul (pv 1) pe_int) (pe_opC op_mul (pv 2) pe_int)) pe_int) pe_int))))
    (pss_one (ps_ret (pe_lst (pa_cons (pe_callTy1 call_list_of (by rfl) (W.free 0 rfl) (by decide +kernel) (pv 0)) (pa_cons (pe_op op_mul (pv 1) (pe_callTy1 call_int1 (by rfl) (W.free 2 rfl) (by decide +kernel) (pe_cmpRC op_gt (pe_callB1 call_len_seq (by rfl) (W.free 1 rfl) (by decide +kernel) (pv 0)) pe_int (nomark _)))) pa_nil)))))))
theorem sc_law_take : FnScope N_law_take P_law_take (defScope s_law_take) := ⟨rfl, rfl, rfl, by decide +kernel, rfl, by decide +kernel, by decide +kernel⟩
theorem ok_law_take (W : Wd K mg) : Can P w K mg base 1 ("_law_take", none) P_law_take (sp_law_take K) := by
  obtain ⟨fd, F⟩ := W.c.def_ 1 (d := d_law_take) rfl
  refine can_of F (F.bindsN fun _ _ _ _ _ _ us hl => match us, hl with | [_, _], _ => rfl) sc_law_take (fun vs H Q E h => by unfold sp_law_take at h; match vs, h with | [_, _], _ => rfl) (t_law_take K) (fun cdv A outer s H E hr => ?_) (pure_law_take)
  have nd := sc_law_take.nd
  exact (pss_cons (ps_if (pt_cmpR (opx_eqE (hu_of hr)) (pe_ixC ix_list (pv 0) pe_int (fun _ _ => rfl)) (pe_lst pa_nil) (nomark _)) (pss_cons (ps_asg (pe_opC op_mod (pe_opC op_mul (pe_ixC ix_list (pv 0) pe_int (fun _ _ => rfl)) pe_int) pe_int) (pg_subC (pv 0) pe_int set_list))
    (pss_one (ps_ret (pe_op op_mod (pe_opC op_fdivW (pe_ixC ix_list (pv 0) pe_int (fun _ _ => rfl)) pe_int) (pv 1))))) pss_nil)
    (pss_cons (ps_set (i := 2) nd rfl (Or.inl rfl) (pe_ixC ix_list (pe_ixC ix_list (pv 0) pe_int (fun _ _ => rfl)) pe_int (fun _ _ => rfl)))
    (pss_cons (ps_asg (pe_op op_fdivW (pv 2) (pv 1)) (pg_subC (pe_ixC ix_list (pv 0) pe_int (fun _ _ => rfl)) pe_int set_list))
    (pss_cons (ps_if (PW.pt (pw_or (pt_cmpRC op_eq (pe_ixC ix_list (pe_ixC ix_list (pv 0) pe_int (fun _ _ => rfl)) pe_int (fun _ _ => rfl)) pe_int (nomark _)) (pw_or1 (pt_cmpRC op_eq (pe_ixC ix_list (pe_ixC ix_list (pv 0) pe_int (fun _ _ => rfl)) pe_int (fun _ _ => rfl)) (pe_unN pe_int) (nomark _))))) (pss_one (ps_expr (pe_bm PySem.F.plainAttrs_list PySem.F.slot_list_pop PySem.F.type_list_pop mt_popAt (pe_ixC ix_list (pv 0) pe_int (fun _ _ => rfl)) (pa_consC pe_int pa_nil)))) pss_nil)
    (pss_one (ps_ret (pe_op op_mod (pv 2) (pv 1))))))))
theorem sc_law_kinds : FnScope N_law_kinds P_law_kinds (defScope s_law_kinds) := ⟨rfl, rfl, rfl, by decide +kernel, rfl, by decide +kernel, by decide +kernel⟩
theorem ok_law_kinds (W : Wd K mg) : Can P w K mg base 2 ("_law_kinds", none) P_law_kinds (sp_law_kinds K) := by
  obtain ⟨fd, F⟩ := W.c.def_ 2 (d := d_law_kinds) rfl
  refine can_of F (F.bindsN fun _ _ _ _ _ _ us hl => match us, hl with | [_], _ => rfl) sc_law_kinds (fun vs H Q E h => by unfold sp_law_kinds at h; match vs, h with | [_], _ => rfl) (t_law_kinds K) (fun cdv A outer s H E hr => ?_) (pure_law_kinds)
  have nd := sc_law_kinds.nd
  exact (pss_one (ps_ret (pe_callTy1 call_tuple_of (by rfl) (W.free 5 rfl) (by decide +kernel) (pe_lc (own := [("_law_k", 1)]) rfl nd (pi_range1 (by rfl) (W.free 4 rfl) (pa_cons (pe_opD op_add pe_int (pe_callC (ok_law_take W) (hr.mono (by decide)) rfl (W.glo 3 rfl) (passes_call (takes_of rfl rfl rfl rfl) (fun _ _ _ _ h => h)) (pa_cons (pv 0) (pa_consC pe_int pa_nil)))) pa_nil)) (blkOk_by (own := [("_law_k", 1)]) (N := N_law_kinds) (sc := defScope s_law_kinds) (by decide +kernel)) (fun _ _ _ _ _ => (pg_name (i := 1) nd rfl (Or.inl rfl))) (fun _ _ _ _ _ => pts_nil) (fun _ _ _ _ _ => (pe_ix ix_list (pe_lst (pa_consC pe_str (pa_consC pe_str pa_nil))) (pe_callC (ok_law_take W) (hr.mono (by decide)) rfl (W.glo 3 rfl) passL (pa_cons (pv 0) (pa_consC pe_int pa_nil))) (fun _ _ => rfl)))))))
theorem sc_law_order : FnScope N_law_order P_law_order (defScope s_law_order) := ⟨rfl, rfl, rfl, by decide +kernel, rfl, by decide +kernel, by decide +kernel⟩
theorem ok_law_order (W : Wd K mg) : Can P w K mg base 2 ("_law_order", none) P_law_order (sp_law_order K) := by
  obtain ⟨fd, F⟩ := W.c.def_ 3 (d := d_law_order) rfl
  refine can_of F (F.bindsN fun _ _ _ _ _ _ us hl => match us, hl with | [_, _], _ => rfl) sc_law_order (fun vs H Q E h => by unfold sp_law_order at h; match vs, h with | [_, _], _ => rfl) (t_law_order K) (fun cdv A outer s H E hr => ?_) (pure_law_order)
  have nd := sc_law_order.nd
  exact (pss_cons (ps_set (i := 2) nd rfl (Or.inl rfl) (pe_listRg rfl rfl (W.free 0 rfl) (prg_1 rfl (W.free 4 rfl) (pe_callB1 call_len_seq (by rfl) (W.free 1 rfl) (by decide +kernel) (pv 1)))))
    (pss_cons (ps_set (i := 3) nd rfl (Or.inl rfl) (pe_lst pa_nil))
    (pss_cons (ps_for (passes_of rfl) rfl (pi_range1 (by rfl) (W.free 4 rfl) (pa_cons (pe_opD op_add pe_int (pe_callC (ok_law_take W) (hr.mono (by decide)) rfl (W.glo 3 rfl) (passes_call (takes_of rfl rfl rfl rfl) (fun _ _ _ _ h => h)) (pa_cons (pv 0) (pa_cons (pe_callB1 call_len_seq (by rfl) (W.free 1 rfl) (by decide +kernel) (pv 1)) pa_nil)))) pa_nil)) (pg_name (i := 4) nd rfl (Or.inl rfl)) (pss_one (ps_expr (pe_bm PySem.F.plainAttrs_list PySem.F.slot_list_append PySem.F.type_list_append mt_append (pv 3) (pa_cons (pe_tup (pa_cons (pe_bm PySem.F.plainAttrs_list PySem.F.slot_list_pop PySem.F.type_list_pop mt_popAt (pv 2) (pa_cons (pe_callC (ok_law_take W) (hr.mono (by decide)) rfl (W.glo 3 rfl) (passes_call (takes_of rfl rfl rfl rfl) (fun _ _ _ _ h => h)) (pa_cons (pv 0) (pa_cons (pe_callB1 call_len_seq (by rfl) (W.free 1 rfl) (by decide +kernel) (pv 2)) pa_nil))) pa_nil)) (pa_cons (pe_ix ix_list (pe_lst (pa_consC pe_str (pa_consC pe_str pa_nil))) (pe_callC (ok_law_take W) (hr.mono (by decide)) rfl (W.glo 3 rfl) (passes_call (takes_of rfl rfl rfl rfl) (fun _ _ _ _ h => h)) (pa_cons (pv 0) (pa_consC pe_int pa_nil))) (fun _ _ => rfl)) pa_nil))) pa_nil)))))
    (pss_one (ps_ret (pv 3))))))
theorem sc_law_value : FnScope N_law_value P_law_value (defScope s_law_value) := ⟨rfl, rfl, rfl, by decide +kernel, rfl, by decide +kernel, by decide +kernel⟩
theorem ok_law_value (W : Wd K mg) : Can P w K mg base 2 ("_law_value", none) P_law_value (sp_law_value K) := by
  obtain ⟨fd, F⟩ := W.c.def_ 4 (d := d_law_value) rfl
  refine can_of F (F.bindsN fun _ _ _ _ _ _ us hl => match us, hl with | [_, _], _ => rfl) sc_law_value (fun vs H Q E h => by unfold sp_law_value at h; match vs, h with | [_, _], _ => rfl) (t_law_value K) (fun cdv A outer s H E hr => ?_) (pure_law_value)
  have nd := sc_law_value.nd
  exact (pss_cons (ps_if (pt_cmpRC op_eq (pv 1) pe_str (nomark _)) (pss_one (ps_ret (pe_ix ix_list (pe_lst (pa_cons (pe_callC (ok_law_take W) (hr.mono (by decide)) rfl (W.glo 3 rfl) (passes_call (takes_of rfl rfl rfl rfl) (fun _ _ _ _ h => h)) (pa_cons (pv 0) (pa_consC pe_int pa_nil))) (pa_cons (pe_opC op_sub (pe_callC (ok_law_take W) (hr.mono (by decide)) rfl (W.glo 3 rfl) (passes_call (takes_of rfl rfl rfl rfl) (fun _ _ _ _ h => h)) (pa_cons (pv 0) (pa_consC pe_int pa_nil))) pe_int) (pa_cons (pe_ix ix_list (pe_lst (pa_consC (pe_unN pe_int) (pa_consC pe_int (pa_consC pe_int pa_nil)))) (pe_callC (ok_law_take W) (hr.mono (by decide)) rfl (W.glo 3 rfl) (passes_call (takes_of rfl rfl rfl rfl) (fun _ _ _ _ h => h)) (pa_cons (pv 0) (pa_consC pe_int pa_nil))) (fun _ _ => rfl)) pa_nil)))) (pe_callC (ok_law_take W) (hr.mono (by decide)) rfl (W.glo 3 rfl) (passes_call (takes_of rfl rfl rfl rfl) (fun _ _ _ _ h => h)) (pa_cons (pv 0) (pa_consC pe_int pa_nil))) (fun _ _ => rfl)))) pss_nil)
    (pss_cons (ps_set (i := 2) nd rfl (Or.inl rfl) (pe_callC (ok_law_take W) (hr.mono (by decide)) rfl (W.glo 3 rfl) (passes_call (takes_of rfl rfl rfl rfl) (fun _ _ _ _ h => h)) (pa_cons (pv 0) (pa_cons (pe_ix ix_list (pe_lst (pa_consC pe_int (pa_consC pe_int pa_nil))) (pe_callC (ok_law_take W) (hr.mono (by decide)) rfl (W.glo 3 rfl) (passes_call (takes_of rfl rfl rfl rfl) (fun _ _ _ _ h => h)) (pa_cons (pv 0) (pa_consC pe_int pa_nil))) (fun _ _ => rfl)) pa_nil))))
    (pss_cons (ps_set (i := 3) nd rfl (Or.inr rfl) (pe_ix ix_list (pe_lst (pa_consC pe_str (pa_consC pe_str pa_nil))) (pe_callC (ok_law_take W) (hr.mono (by decide)) rfl (W.glo 3 rfl) (passes_call (takes_of rfl rfl rfl rfl) (fun _ _ _ _ h => h)) (pa_cons (pv 0) (pa_consC pe_int pa_nil))) (fun _ _ => rfl)))
    (pss_one (ps_ret (pe_join pe_str (pe_lc (own := [("_law_k", 4)]) rfl nd (pi_range1 (by rfl) (W.free 4 rfl) (pa_cons (pv 2) pa_nil)) (blkOk_by (own := [("_law_k", 4)]) (N := N_law_value) (sc := defScope s_law_value) (by decide +kernel)) (fun _ _ _ _ _ => (pg_name (i := 4) nd rfl (Or.inl rfl))) (fun _ _ _ _ _ => pts_nil) (fun _ _ _ _ _ => (pe_ix ix_str (pv 3) (pe_callC (ok_law_take W) (hr.mono (by decide)) rfl (W.glo 3 rfl) passL (pa_cons (pv 0) (pa_cons (pe_callB1 call_len_str (by rfl) (W.free 1 rfl) (by decide +kernel) (pv 3)) pa_nil))) (fun _ _ => rfl))))))))))
theorem sc_law_rows : FnScope N_law_rows P_law_rows (defScope s_law_rows) := ⟨rfl, rfl, rfl, by decide +kernel, rfl, by decide +kernel, by decide +kernel⟩
theorem ok_law_rows (W : Wd K mg) : Can P w K mg base 3 ("_law_rows", none) P_law_rows (sp_law_rows K) := by
  obtain ⟨fd, F⟩ := W.c.def_ 5 (d := d_law_rows) rfl
  refine can_of F (F.bindsN fun _ _ _ _ _ _ us hl => match us, hl with | [_, _, _], _ => rfl) sc_law_rows (fun vs H Q E h => by unfold sp_law_rows at h; match vs, h with | [_, _, _], _ => rfl) (t_law_rows K) (fun cdv A outer s H E hr => ?_) (pure_law_rows)
  have nd := sc_law_rows.nd
  exact (pss_cons (ps_set (i := 3) nd rfl (Or.inl rfl) (pe_lst pa_nil))
    (pss_cons (ps_set (i := 4) nd rfl (Or.inl rfl) (pe_callC (ok_law_take W) (hr.mono (by decide)) rfl (W.glo 3 rfl) (passes_call (takes_of rfl rfl rfl rfl) (fun _ _ _ _ h => h)) (pa_cons (pv 0) (pa_consC pe_int pa_nil))))
    (pss_cons (ps_for (passes_of rfl) rfl (pi_range1 (by rfl) (W.free 4 rfl) (pa_cons (pe_callC (ok_law_take W) (hr.mono (by decide)) rfl (W.glo 3 rfl) (passes_call (takes_of rfl rfl rfl rfl) (fun _ _ _ _ h => h)) (pa_cons (pv 0) (pa_cons (pe_opC op_add (pv 2) pe_int) pa_nil))) pa_nil)) (pg_name (i := 5) nd rfl (Or.inl rfl)) (pss_cons (ps_setLc (i := 6) (own := [("_law_kind", 7)]) rfl nd rfl rfl (sw_true rfl rfl rfl (by decide +kernel)) (pi_tup (pv 1)) (blkOk_by (own := [("_law_kind", 7)]) (N := N_law_rows) (sc := defScope s_law_rows) (by decide +kernel)) (fun _ _ _ _ _ => (pg_name (i := 7) nd rfl (Or.inl rfl))) (fun _ _ _ _ _ => pts_nil) (fun _ _ _ _ _ => (pe_callC (ok_law_value W) (hr.mono (by decide)) rfl (W.glo 6 rfl) passL (pa_cons (pv 0) (pa_cons (pv 7) pa_nil)))))
    (pss_cons (ps_if (PW.pt (pw_and (pt_cmpR (opx_neE (hu_of hr)) (pv 3) (pe_lst pa_nil) (nomark _)) (pw_and1 (pt_cmpRC op_eq (pe_callC (ok_law_take W) (hr.mono (by decide)) rfl (W.glo 3 rfl) (passes_call (takes_of rfl rfl rfl rfl) (fun _ _ _ _ h => h)) (pa_cons (pv 0) (pa_consC pe_int pa_nil))) pe_int (nomark _))))) (pss_one (ps_set (i := 6) nd rfl (Or.inl rfl) (pe_callTy1 call_list_of (by rfl) (W.free 0 rfl) (by decide +kernel) (pe_ix ix_list (pv 3) (pe_callC (ok_law_take W) (hr.mono (by decide)) rfl (W.glo 3 rfl) (passes_call (takes_of rfl rfl rfl rfl) (fun _ _ _ _ h => h)) (pa_cons (pv 0) (pa_cons (pe_callB1 call_len_seq (by rfl) (W.free 1 rfl) (by decide +kernel) (pv 3)) pa_nil))) (fun _ _ => rfl))))) pss_nil)
    (pss_cons (ps_if (PW.pt (pw_and (pt_cmpR (opx_neE (hu_of hr)) (pv 3) (pe_lst pa_nil) (nomark _)) (pw_and (pt_cmpRC op_lt (pv 4) pe_int (nomark _)) (pw_and1 (pt_cmpRC op_eq (pe_ixC ix_tup (pv 1) pe_int (fun _ _ => rfl)) pe_str (nomark _)))))) (pss_one (ps_asg (pe_callB (call_max2 rfl) (by rfl) (W.free 8 rfl) (by decide +kernel) (pa_consC (pe_unN pe_int) (pa_cons (pe_callB (call_min2 rfl) (by rfl) (W.free 7 rfl) (by decide +kernel) (pa_consC pe_int (pa_cons (pe_op op_add (pe_ixC ix_tup (pe_ixC ix_list (pv 3) (pe_unN pe_int) (fun _ _ => rfl)) pe_int (fun _ _ => rfl)) (pe_op op_mul (pe_ix ix_list (pe_lst (pa_consC pe_int (pa_consC (pe_unN pe_int) pa_nil))) (pv 4) (fun _ _ => rfl)) (pe_callC (ok_law_take W) (hr.mono (by decide)) rfl (W.glo 3 rfl) (passes_call (takes_of rfl rfl rfl rfl) (fun _ _ _ _ h => h)) (pa_cons (pv 0) (pa_consC pe_int pa_nil))))) pa_nil))) pa_nil))) (pg_subC (pv 6) pe_int set_list))) pss_nil)
    (pss_one (ps_expr (pe_bm PySem.F.plainAttrs_list PySem.F.slot_list_append PySem.F.type_list_append mt_append (pv 3) (pa_cons (pe_callTy1 call_tuple_of (by rfl) (W.free 5 rfl) (by decide +kernel) (pv 6)) pa_nil))))))))
    (pss_one (ps_ret (pv 3))))))
theorem sc_need_kinds : FnScope N_need_kinds P_need_kinds (defScope s_need_kinds) := ⟨rfl, rfl, rfl, by decide +kernel, rfl, by decide +kernel, by decide +kernel⟩
theorem ok_need_kinds (W : Wd K mg) : Can P w K mg base 1 ("need_kinds", none) P_need_kinds (sp_need_kinds K) := by
  obtain ⟨fd, F⟩ := W.c.def_ 6 (d := d_need_kinds) rfl
  refine can_of F (F.bindsN fun _ _ _ _ _ _ us hl => match us, hl with | [_], _ => rfl) sc_need_kinds (fun vs H Q E h => by unfold sp_need_kinds at h; match vs, h with | [_], _ => rfl) (t_need_kinds K) (fun cdv A outer s H E hr => ?_) (pure_need_kinds)
  have nd := sc_need_kinds.nd
  exact (pss_one (ps_if (PW.pt (pw_or (pt_not (pt_chain op_le op_le pe_int (pe_callB1 call_len_seq (by rfl) (W.free 1 rfl) (by decide +kernel) (pv 0)) (pe_gint rfl (W.int 9 rfl)))) (pw_or1 (pt_cmpR (opx_neE (hu_of hr)) (pe_lc (own := [("kind", 1)]) rfl nd (pi_tup (pv 0)) (blkOk_by (own := [("kind", 1)]) (N := N_need_kinds) (sc := defScope s_need_kinds) (by decide +kernel)) (fun _ _ _ _ _ => (pg_name (i := 1) nd rfl (Or.inl rfl))) (fun _ _ _ _ _ => (pts_one (pt_cmpR op_notIn_seq (pv 1) (pe_tup (pa_consC (pe_gstr rfl (W.str 10 rfl)) (pa_consC (pe_gstr rfl (W.str 11 rfl)) pa_nil))) (by rfl)))) (fun _ _ _ _ _ => (pv 1))) (pe_lst pa_nil) (nomark _))))) (pss_one ps_never) pss_nil))
theorem sc_is_turn : FnScope N_is_turn P_is_turn (defScope s_is_turn) := ⟨rfl, rfl, rfl, by decide +kernel, rfl, by decide +kernel, by decide +kernel⟩
theorem ok_is_turn (W : Wd K mg) : Can P w K mg base 1 ("is_turn", none) P_is_turn (sp_is_turn K) := by
  obtain ⟨fd, F⟩ := W.c.def_ 7 (d := d_is_turn) rfl
  refine can_of F (F.bindsN fun _ _ _ _ _ _ us hl => match us, hl with | [_, _], _ => rfl) sc_is_turn (fun vs H Q E h => by unfold sp_is_turn at h; match vs, h with | [_, _], _ => rfl) (t_is_turn K) (fun cdv A outer s H E hr => ?_) (pure_is_turn)
  have nd := sc_is_turn.nd
  exact (pss_one (ps_ret (pe_and (pe_cmpRC op_eq (pe_callB1 call_len_seq (by rfl) (W.free 1 rfl) (by decide +kernel) (pv 1)) pe_int (nomark _)) (pe_and (pe_chain op_le op_lt pe_int (pe_ixC ix_tup (pv 1) pe_int (fun _ _ => rfl)) (pe_callB1 call_len_seq (by rfl) (W.free 1 rfl) (by decide +kernel) (pv 0))) (pe_one (pe_cmpR op_in_seq (pe_ixC ix_tup (pv 1) pe_int (fun _ _ => rfl)) (pe_tup (pa_consC (pe_gstr rfl (W.str 12 rfl)) (pa_consC (pe_gstr rfl (W.str 13 rfl)) pa_nil))) (by rfl)))))))
theorem sc_need_order : FnScope N_need_order P_need_order (defScope s_need_order) := ⟨rfl, rfl, rfl, by decide +kernel, rfl, by decide +kernel, by decide +kernel⟩
theorem ok_need_order (W : Wd K mg) : Can P w K mg base 2 ("need_order", none) P_need_order (sp_need_order K) := by
  obtain ⟨fd, F⟩ := W.c.def_ 8 (d := d_need_order) rfl
  refine can_of F (F.bindsN fun _ _ _ _ _ _ us hl => match us, hl with | [_, _], _ => rfl) sc_need_order (fun vs H Q E h => by unfold sp_need_order at h; match vs, h with | [_, _], _ => rfl) (t_need_order K) (fun cdv A outer s H E hr => ?_) (pure_need_order)
  have nd := sc_need_order.nd
  exact (pss_cons (ps_setLc (i := 2) (own := [("turn", 3)]) rfl nd rfl rfl (sw_true rfl rfl rfl (by decide +kernel)) (pi_list (pv 1)) (blkOk_by (own := [("turn", 3)]) (N := N_need_order) (sc := defScope s_need_order) (by decide +kernel)) (fun _ _ _ _ _ => (pg_name (i := 3) nd rfl (Or.inl rfl))) (fun _ _ _ _ _ => (pts_one (pt_val (pe_callC (ok_is_turn W) (hr.mono (by decide)) rfl (W.glo 14 rfl) passL (pa_cons (pv 0) (pa_cons (pv 3) pa_nil)))))) (fun _ _ _ _ _ => (pv 3)))
    (pss_one (ps_if (PW.pt (pw_or (pt_cmpRC op_eq (pe_callB1 call_len_seq (by rfl) (W.free 1 rfl) (by decide +kernel) (pv 2)) pe_int (nomark _)) (pw_or (pt_cmpR op_ne (pe_callB1 call_len_seq (by rfl) (W.free 1 rfl) (by decide +kernel) (pv 2)) (pe_callB1 call_len_seq (by rfl) (W.free 1 rfl) (by decide +kernel) (pv 1)) (nomark _)) (pw_or1 (pt_cmpR op_ne (pe_lenSetX rfl (W.free 1 rfl) rfl (W.free 15 rfl) (pe_lc (own := [("turn", 3)]) rfl nd (pi_list (pv 2)) (blkOk_by (own := [("turn", 3)]) (N := N_need_order) (sc := defScope s_need_order) (by decide +kernel)) (fun _ _ _ _ _ => (pg_name (i := 3) nd rfl (Or.inl rfl))) (fun _ _ _ _ _ => pts_nil) (fun _ _ _ _ _ => (pe_ixC ix_tup (pv 3) pe_int (fun _ _ => rfl))))) (pe_callB1 call_len_seq (by rfl) (W.free 1 rfl) (by decide +kernel) (pv 2)) (nomark _)))))) (pss_one ps_never) pss_nil)))
theorem sc_Room___init__ : FnScope N_Room___init__ P_Room___init__ (defScope s_Room___init__) := ⟨rfl, rfl, rfl, by decide +kernel, rfl, by decide +kernel, by decide +kernel⟩
theorem ok_Room___init__ (W : Wd K mg) : Can P w K mg base 1 ("Room", some "__init__") P_Room___init__ (sp_Room___init__ K) := by
  obtain ⟨fd, F⟩ := W.c.def_ 9 (d := d_Room___init__) rfl
  refine can_of F (F.bindsN fun _ _ _ _ _ _ us hl => match us, hl with | [_, _], _ => rfl) sc_Room___init__ (fun vs H Q E h => by unfold sp_Room___init__ at h; match vs, h with | [_, _], _ => rfl) (t_Room___init__ K) (fun cdv A outer s H E hr => ?_) (pure_Room___init__ W.txt_Room)
  have nd := sc_Room___init__.nd
  exact (pss_cons (ps_fl (pv 0) (pv 1) rfl)
    (pss_one (ps_fl (pv 0) (pe_lst pa_nil) rfl)))
theorem sc_Maker___init__ : FnScope N_Maker___init__ P_Maker___init__ (defScope s_Maker___init__) := ⟨rfl, rfl, rfl, by decide +kernel, rfl, by decide +kernel, by decide +kernel⟩
theorem ok_Maker___init__ (W : Wd K mg) : Can P w K mg base 3 ("Maker", some "__init__") P_Maker___init__ (sp_Maker___init__ K) := by
  obtain ⟨fd, F⟩ := W.c.def_ 10 (d := d_Maker___init__) rfl
  refine can_of F (F.bindsN fun _ _ _ _ _ _ us hl => match us, hl with | [_, _, _], _ => rfl) sc_Maker___init__ (fun vs H Q E h => by unfold sp_Maker___init__ at h; match vs, h with | [_, _, _], _ => rfl) (t_Maker___init__ K) (fun cdv A outer s H E hr => ?_) (pure_Maker___init__ W.txt_Maker)
  have nd := sc_Maker___init__.nd
  exact (pss_cons (ps_fl (pv 0) (pv 1) rfl)
    (pss_cons (ps_fl (pv 0) (pv 2) rfl)
    (pss_cons (ps_fl (pv 0) (pe_makeC (W.mkr 16 rfl) (ok_Room___init__ W) (hr.mono (by decide)) rfl (W.glo 17 rfl) (passes_call (takes_of rfl rfl rfl rfl) (fun _ _ _ _ h => h)) (pa_cons (pv 1) pa_nil)) rfl)
    (pss_cons (ps_fl (pv 0) pe_int rfl)
    (pss_one (ps_fl (pv 0) pe_non rfl))))))
theorem sc_is_value : FnScope N_is_value P_is_value (defScope s_is_value) := ⟨rfl, rfl, rfl, by decide +kernel, rfl, by decide +kernel, by decide +kernel⟩
theorem ok_is_value (W : Wd K mg) : Can P w K mg base 1 ("is_value", none) P_is_value (sp_is_value K) := by
  obtain ⟨fd, F⟩ := W.c.def_ 11 (d := d_is_value) rfl
  refine can_of F (F.bindsN fun _ _ _ _ _ _ us hl => match us, hl with | [_, _], _ => rfl) sc_is_value (fun vs H Q E h => by unfold sp_is_value at h; match vs, h with | [_, _], _ => rfl) (t_is_value K) (fun cdv A outer s H E hr => ?_) (pure_is_value)
  have nd := sc_is_value.nd
  exact (pss_cons (ps_if (pt_cmpRC op_eq (pv 0) (pe_gstr rfl (W.str 11 rfl)) (nomark _)) (pss_cons (ps_if (PW.pt (pw_or (pt_not (pt_val (pe_isi (by rfl) (W.free 18 rfl) (pv 1) (pe_bltn (v := .ty "str") rfl (W.free 19 rfl) (by decide +kernel) rfl)))) (pw_or1 (pt_cmpRC op_gt (pe_callB1 call_len_str (by rfl) (W.free 1 rfl) (by decide +kernel) (pv 1)) (pe_gint rfl (W.int 20 rfl)) (nomark _))))) (pss_one (ps_ret pe_bl)) pss_nil)
    (pss_one (ps_ret (pe_cmpR (opx_eqE (hu_of hr)) (pe_lc (own := [("sign", 2)]) rfl nd (pi_str (pv 1)) (blkOk_by (own := [("sign", 2)]) (N := N_is_value) (sc := defScope s_is_value) (by decide +kernel)) (fun _ _ _ _ _ => (pg_name (i := 2) nd rfl (Or.inl rfl))) (fun _ _ _ _ _ => (pts_one (pt_cmpRC op_notInS (pv 2) (pe_gstr rfl (W.str 21 rfl)) (by rfl)))) (fun _ _ _ _ _ => (pv 2))) (pe_lst pa_nil) (nomark _))))) pss_nil)
    (pss_one (ps_ret (pe_and (pe_isi (by rfl) (W.free 18 rfl) (pv 1) (pe_bltn (v := .ty "int") rfl (W.free 2 rfl) (by decide +kernel) rfl)) (pe_and (pe_not (pe_isi (by rfl) (W.free 18 rfl) (pv 1) (pe_bltn (v := .ty "bool") rfl (W.free 22 rfl) (by decide +kernel) rfl))) (pe_one (pe_chain op_le op_le (pe_opC op_sub pe_int (pe_gint rfl (W.int 23 rfl))) (pv 1) (pe_gint rfl (W.int 23 rfl)))))))))
theorem sc_is_row : FnScope N_is_row P_is_row (defScope s_is_row) := ⟨rfl, rfl, rfl, by decide +kernel, rfl, by decide +kernel, by decide +kernel⟩
theorem ok_is_row (W : Wd K mg) : Can P w K mg base 2 ("is_row", none) P_is_row (sp_is_row K) := by
  obtain ⟨fd, F⟩ := W.c.def_ 12 (d := d_is_row) rfl
  refine can_of F (F.bindsN fun _ _ _ _ _ _ us hl => match us, hl with | [_, _], _ => rfl) sc_is_row (fun vs H Q E h => by unfold sp_is_row at h; match vs, h with | [_, _], _ => rfl) (t_is_row K) (fun cdv A outer s H E hr => ?_) (pure_is_row)
  have nd := sc_is_row.nd
  exact (pss_cons (ps_if (pt_cmpR op_ne (pe_callB1 call_len_seq (by rfl) (W.free 1 rfl) (by decide +kernel) (pv 1)) (pe_callB1 call_len_seq (by rfl) (W.free 1 rfl) (by decide +kernel) (pv 0)) (nomark _)) (pss_one (ps_ret pe_bl)) pss_nil)
    (pss_one (ps_ret (pe_cmpR (opx_eqE (hu_of hr)) (pe_lc (own := [("k", 2)]) rfl nd (pi_range1 (by rfl) (W.free 4 rfl) (pa_cons (pe_callB1 call_len_seq (by rfl) (W.free 1 rfl) (by decide +kernel) (pv 0)) pa_nil)) (blkOk_by (own := [("k", 2)]) (N := N_is_row) (sc := defScope s_is_row) (by decide +kernel)) (fun _ _ _ _ _ => (pg_name (i := 2) nd rfl (Or.inl rfl))) (fun _ _ _ _ _ => (pts_one (pt_not (pt_val (pe_callC (ok_is_value W) (hr.mono (by decide)) rfl (W.glo 24 rfl) passL (pa_cons (pe_ix ix_tup (pv 0) (pv 2) (fun _ _ => rfl)) (pa_cons (pe_ix ix_tup (pv 1) (pv 2) (fun _ _ => rfl)) pa_nil))))))) (fun _ _ _ _ _ => (pv 2))) (pe_lst pa_nil) (nomark _)))))
theorem sc_need_rows : FnScope N_need_rows P_need_rows (defScope s_need_rows) := ⟨rfl, rfl, rfl, by decide +kernel, rfl, by decide +kernel, by decide +kernel⟩
theorem ok_need_rows (W : Wd K mg) : Can P w K mg base 3 ("need_rows", none) P_need_rows (sp_need_rows K) := by
  obtain ⟨fd, F⟩ := W.c.def_ 13 (d := d_need_rows) rfl
  refine can_of F (F.bindsN fun _ _ _ _ _ _ us hl => match us, hl with | [_, _, _], _ => rfl) sc_need_rows (fun vs H Q E h => by unfold sp_need_rows at h; match vs, h with | [_, _, _], _ => rfl) (t_need_rows K) (fun cdv A outer s H E hr => ?_) (pure_need_rows)
  have nd := sc_need_rows.nd
  exact (pss_one (ps_for (passes_of rfl) rfl (pi_enum (by rfl) (W.free 25 rfl) (pa_cons (pv 1) pa_nil)) (pg_tup rfl (pgs_cons (pg_name (i := 3) nd rfl (Or.inl rfl)) (pgs_cons (pg_name (i := 4) nd rfl (Or.inl rfl)) pgs_nil))) (pss_one (ps_if (PW.pt (pw_or (pt_cmpR op_ge (pv 3) (pv 2) (nomark _)) (pw_or1 (pt_not (pt_val (pe_callC (ok_is_row W) (hr.mono (by decide)) rfl (W.glo 26 rfl) (passes_call (takes_of rfl rfl rfl rfl) (fun _ _ _ _ h => h)) (pa_cons (pv 0) (pa_cons (pv 4) pa_nil)))))))) (pss_one ps_never) pss_nil))))
theorem sc_need_making : FnScope N_need_making P_need_making (defScope s_need_making) := ⟨rfl, rfl, rfl, by decide +kernel, rfl, by decide +kernel, by decide +kernel⟩
theorem ok_need_making (W : Wd K mg) : Can P w K mg base 4 ("need_making", none) P_need_making (sp_need_making K) := by
  obtain ⟨fd, F⟩ := W.c.def_ 14 (d := d_need_making) rfl
  refine can_of F (F.bindsN fun _ _ _ _ _ _ us hl => match us, hl with | [_, _, _, _], _ => rfl) sc_need_making (fun vs H Q E h => by unfold sp_need_making at h; match vs, h with | [_, _, _, _], _ => rfl) (t_need_making K) (fun cdv A outer s H E hr => ?_) (pure_need_making)
  have nd := sc_need_making.nd
  exact (pss_cons (ps_expr (pe_callC (ok_need_kinds W) (hr.mono (by decide)) rfl (W.glo 27 rfl) (passes_call (takes_of rfl rfl rfl rfl) (fun _ _ _ _ h => h)) (pa_cons (pv 0) pa_nil)))
    (pss_cons (ps_expr (pe_callC (ok_need_order W) (hr.mono (by decide)) rfl (W.glo 28 rfl) (passes_call (takes_of rfl rfl rfl rfl) (fun _ _ _ _ h => h)) (pa_cons (pv 0) (pa_cons (pv 1) pa_nil))))
    (pss_cons (ps_if (pt_not (pt_chain op_le op_le pe_int (pv 2) (pe_gint rfl (W.int 29 rfl)))) (pss_one ps_never) pss_nil)
    (pss_one (ps_expr (pe_callC (ok_need_rows W) (hr.mono (by decide)) rfl (W.glo 31 rfl) (passes_call (takes_of rfl rfl rfl rfl) (fun _ _ _ _ h => h)) (pa_cons (pv 0) (pa_cons (pv 3) (pa_consC (pe_gint rfl (W.int 30 rfl)) pa_nil)))))))))
theorem sc_numbered : FnScope N_numbered P_numbered (defScope s_numbered) := ⟨rfl, rfl, rfl, by decide +kernel, rfl, by decide +kernel, by decide +kernel⟩
theorem ok_numbered (W : Wd K mg) : Can P w K mg base 1 ("numbered", none) P_numbered (sp_numbered K) := by
  obtain ⟨fd, F⟩ := W.c.def_ 15 (d := d_numbered) rfl
  refine can_of F (F.bindsN fun _ _ _ _ _ _ us hl => match us, hl with | [_], _ => rfl) sc_numbered (fun vs H Q E h => by unfold sp_numbered at h; match vs, h with | [_], _ => rfl) (t_numbered K) (fun cdv A outer s H E hr => ?_) (pure_numbered)
  have nd := sc_numbered.nd
  exact (pss_one (ps_ret (pe_lc (own := [("number", 1), ("row", 2)]) rfl nd (pi_enum (by rfl) (W.free 25 rfl) (pa_cons (pv 0) pa_nil)) (blkOk_by (own := [("number", 1), ("row", 2)]) (N := N_numbered) (sc := defScope s_numbered) (by decide +kernel)) (fun _ _ _ _ _ => (pg_tup rfl (pgs_cons (pg_name (i := 1) nd rfl (Or.inl rfl)) (pgs_cons (pg_name (i := 2) nd rfl (Or.inl rfl)) pgs_nil)))) (fun _ _ _ _ _ => pts_nil) (fun _ _ _ _ _ => (pe_tup (pa_cons (pv 1) (pa_cons (pv 2) pa_nil)))))))
theorem sc_is_before : FnScope N_is_before P_is_before (defScope s_is_before) := ⟨rfl, rfl, rfl, by decide +kernel, rfl, by decide +kernel, by decide +kernel⟩
theorem ok_is_before (W : Wd K mg) : Can P w K mg base 1 ("is_before", none) P_is_before (sp_is_before K) := by
  obtain ⟨fd, F⟩ := W.c.def_ 16 (d := d_is_before) rfl
  refine can_of F (F.bindsN fun _ _ _ _ _ _ us hl => match us, hl with | [_, _, _], _ => rfl) sc_is_before (fun vs H Q E h => by unfold sp_is_before at h; match vs, h with | [_, _, _], _ => rfl) (t_is_before K) (fun cdv A outer s H E hr => ?_) (pure_is_before)
  have nd := sc_is_before.nd
  exact (pss_cons (ps_for (passes_of rfl) rfl (pi_list (pv 0)) (pg_tup rfl (pgs_cons (pg_name (i := 3) nd rfl (Or.inl rfl)) (pgs_cons (pg_name (i := 4) nd rfl (Or.inl rfl)) pgs_nil))) (pss_one (ps_if (pt_cmpR op_ne (pe_ix ix_tup (pe_ixC ix_tup (pv 1) pe_int (fun _ _ => rfl)) (pv 3) (fun _ _ => rfl)) (pe_ix ix_tup (pe_ixC ix_tup (pv 2) pe_int (fun _ _ => rfl)) (pv 3) (fun _ _ => rfl)) (nomark _)) (pss_one (ps_ret (pe_cmpR op_eq (pe_cmpR opx_ltV (pe_ix ix_tup (pe_ixC ix_tup (pv 1) pe_int (fun _ _ => rfl)) (pv 3) (fun _ _ => rfl)) (pe_ix ix_tup (pe_ixC ix_tup (pv 2) pe_int (fun _ _ => rfl)) (pv 3) (fun _ _ => rfl)) (nomark _)) (pe_cmpRC op_eq (pv 4) (pe_gstr rfl (W.str 12 rfl)) (nomark _)) (nomark _)))) pss_nil)))
    (pss_one (ps_ret (pe_cmpR op_lt (pe_ixC ix_tup (pv 1) pe_int (fun _ _ => rfl)) (pe_ixC ix_tup (pv 2) pe_int (fun _ _ => rfl)) (nomark _)))))
theorem sc_joined : FnScope N_joined P_joined (defScope s_joined) := ⟨rfl, rfl, rfl, by decide +kernel, rfl, by decide +kernel, by decide +kernel⟩
theorem ok_joined (W : Wd K mg) : Can P w K mg base 2 ("joined", none) P_joined (sp_joined K) := by
  obtain ⟨fd, F⟩ := W.c.def_ 17 (d := d_joined) rfl
  refine can_of F (F.bindsN fun _ _ _ _ _ _ us hl => match us, hl with | [_, _, _], _ => rfl) sc_joined (fun vs H Q E h => by unfold sp_joined at h; match vs, h with | [_, _, _], _ => rfl) (t_joined K) (fun cdv A outer s H E hr => ?_) (pure_joined)
  have nd := sc_joined.nd
  exact (pss_cons (ps_set (i := 3) nd rfl (Or.inl rfl) (pe_lst pa_nil))
    (pss_cons (ps_set (i := 4) nd rfl (Or.inl rfl) pe_int)
    (pss_cons (ps_for (passes_of rfl) rfl (pi_list (pv 2)) (pg_name (i := 5) nd rfl (Or.inl rfl)) (pss_cons (ps_while (passes_of rfl) (PW.pt (pw_and (pt_cmpR op_lt (pv 4) (pe_callB1 call_len_seq (by rfl) (W.free 1 rfl) (by decide +kernel) (pv 1)) (nomark _)) (pw_and1 (pt_val (pe_callC (ok_is_before W) (hr.mono (by decide)) rfl (W.glo 32 rfl) (passes_call (takes_of rfl rfl rfl rfl) (fun _ _ _ _ h => h)) (pa_cons (pv 0) (pa_cons (pe_ix ix_list (pv 1) (pv 4) (fun _ _ => rfl)) (pa_cons (pv 5) pa_nil)))))))) (pss_cons (ps_expr (pe_bm PySem.F.plainAttrs_list PySem.F.slot_list_append PySem.F.type_list_append mt_append (pv 3) (pa_cons (pe_ix ix_list (pv 1) (pv 4) (fun _ _ => rfl)) pa_nil)))
    (pss_one (ps_set (i := 4) nd rfl (Or.inl rfl) (pe_opC op_add (pv 4) pe_int)))))
    (pss_one (ps_expr (pe_bm PySem.F.plainAttrs_list PySem.F.slot_list_append PySem.F.type_list_append mt_append (pv 3) (pa_cons (pv 5) pa_nil))))))
    (pss_one (ps_ret (pe_op op_cat (pv 3) (pe_slice sl_list (pv 1) (po_some (pv 4)) po_none)))))))
theorem sc_in_order : FnScope N_in_order P_in_order (defScope s_in_order) := ⟨rfl, rfl, rfl, by decide +kernel, rfl, by decide +kernel, by decide +kernel⟩
theorem okr_in_order (W : Wd K mg) : ∀ d, Can P w K mg base (2 + d) ("in_order", none) P_in_order (spr_in_order K d) := by
  obtain ⟨fd, F⟩ := W.c.def_ 18 (d := d_in_order) rfl
  refine can_rec (lev := 2) F (F.bindsN fun _ _ _ _ _ _ us hl => match us, hl with | [_, _], _ => rfl) sc_in_order (len_in_order K) (no_in_order K) (t_in_order K) (fun d ih cdv A outer s H E hr => ?_) (fun d => pure_in_order d)
  have nd := sc_in_order.nd
  exact (pss_cons (ps_if (pt_cmpRC op_lt (pe_callB1 call_len_seq (by rfl) (W.free 1 rfl) (by decide +kernel) (pv 1)) pe_int (nomark _)) (pss_one (ps_ret (pe_callTy1 call_list_of (by rfl) (W.free 0 rfl) (by decide +kernel) (pv 1)))) pss_nil)
    (pss_cons (ps_set (i := 2) nd rfl (Or.inl rfl) (pe_opC op_fdivW (pe_callB1 call_len_seq (by rfl) (W.free 1 rfl) (by decide +kernel) (pv 1)) pe_int))
    (pss_one (ps_ret (pe_callC (ok_joined W) (hr.mono (by omega)) rfl (W.glo 34 rfl) (passes_call (takes_of rfl rfl rfl rfl) (fun _ _ _ _ h => h)) (pa_cons (pv 0) (pa_cons (pe_callC ih (hr.mono (by omega)) rfl (W.glo 33 rfl) (passes_call (takes_of rfl rfl rfl rfl) (fun _ _ _ _ h => h)) (pa_cons (pv 0) (pa_cons (pe_slice sl_list (pv 1) po_none (po_some (pv 2))) pa_nil))) (pa_cons (pe_callC ih (hr.mono (by omega)) rfl (W.glo 33 rfl) (passes_call (takes_of rfl rfl rfl rfl) (fun _ _ _ _ h => h)) (pa_cons (pv 0) (pa_cons (pe_slice sl_list (pv 1) (po_some (pv 2)) po_none) pa_nil))) pa_nil))))))))
theorem ok_in_order (W : Wd K mg) : Can P w K mg base 11 ("in_order", none) P_in_order (sp_in_order K) := okr_in_order W 9
theorem sc_filled : FnScope N_filled P_filled (defScope s_filled) := ⟨rfl, rfl, rfl, by decide +kernel, rfl, by decide +kernel, by decide +kernel⟩
theorem ok_filled (W : Wd K mg) : Can P w K mg base 12 ("filled", none) P_filled (sp_filled K) := by
  obtain ⟨fd, F⟩ := W.c.def_ 19 (d := d_filled) rfl
  refine can_of F (F.bindsN fun _ _ _ _ _ _ us hl => match us, hl with | [_, _, _, _], _ => rfl) sc_filled (fun vs H Q E h => by unfold sp_filled at h; match vs, h with | [_, _, _, _], _ => rfl) (t_filled K) (fun cdv A outer s H E hr => ?_) (pure_filled)
  have nd := sc_filled.nd
  exact (pss_cons (ps_expr (pe_callC (ok_need_making W) (hr.mono (by decide)) rfl (W.glo 35 rfl) (passes_call (takes_of rfl rfl rfl rfl) (fun _ _ _ _ h => h)) (pa_cons (pv 0) (pa_cons (pv 1) (pa_cons (pv 2) (pa_cons (pv 3) pa_nil))))))
    (pss_cons (ps_set (i := 4) nd rfl (Or.inr rfl) (pe_callC (ok_numbered W) (hr.mono (by decide)) rfl (W.glo 36 rfl) (passes_call (takes_of rfl rfl rfl rfl) (fun _ _ _ _ h => h)) (pa_cons (pv 3) pa_nil)))
    (pss_one (ps_ret (pe_lc (own := [("begin", 5)]) rfl nd (pi_range3 (by rfl) (W.free 4 rfl) (pa_consC pe_int (pa_cons (pe_callB1 call_len_seq (by rfl) (W.free 1 rfl) (by decide +kernel) (pv 4)) (pa_cons (pv 2) pa_nil)))) (blkOk_by (own := [("begin", 5)]) (N := N_filled) (sc := defScope s_filled) (by decide +kernel)) (fun _ _ _ _ _ => (pg_name (i := 5) nd rfl (Or.inl rfl))) (fun _ _ _ _ _ => pts_nil) (fun _ _ _ _ _ => (pe_callC (ok_in_order W) (hr.mono (by decide)) rfl (W.glo 33 rfl) passL (pa_cons (pe_callTy1 call_list_of (by rfl) (W.free 0 rfl) (by decide +kernel) (pv 1)) (pa_cons (pe_slice sl_list (pv 4) (po_some (pv 5)) (po_some (pe_op op_add (pv 5) (pv 2)))) pa_nil)))))))))
theorem sc_Maker_turn : FnScope N_Maker_turn P_Maker_turn (defScope s_Maker_turn) := ⟨rfl, rfl, rfl, by decide +kernel, rfl, by decide +kernel, by decide +kernel⟩
theorem ok_Maker_turn (W : Wd K mg) : Can P w K mg base 1 ("Maker", some "turn") P_Maker_turn (sp_Maker_turn K) := by
  obtain ⟨fd, F⟩ := W.c.def_ 20 (d := d_Maker_turn) rfl
  refine can_of F (F.bindsN fun _ _ _ _ _ _ us hl => match us, hl with | [_], _ => rfl) sc_Maker_turn (fun vs H Q E h => by unfold sp_Maker_turn at h; match vs, h with | [_], _ => rfl) (t_Maker_turn K) (fun cdv A outer s H E hr => ?_) (pure_Maker_turn W.txt_Maker)
  have nd := sc_Maker_turn.nd
  exact (pss_cons (ps_fl (pv 0) (pe_opC op_add (pe_fl (pv 0) rfl) pe_int) rfl)
    (pss_one (ps_fl (pv 0) pe_non rfl)))
theorem sc_Room_many_in : FnScope N_Room_many_in P_Room_many_in (defScope s_Room_many_in) := ⟨rfl, rfl, rfl, by decide +kernel, rfl, by decide +kernel, by decide +kernel⟩
theorem ok_Room_many_in (W : Wd K mg) : Can P w K mg base 1 ("Room", some "many_in") P_Room_many_in (sp_Room_many_in K) := by
  obtain ⟨fd, F⟩ := W.c.def_ 21 (d := d_Room_many_in) rfl
  refine can_of F (F.bindsN fun _ _ _ _ _ _ us hl => match us, hl with | [_], _ => rfl) sc_Room_many_in (fun vs H Q E h => by unfold sp_Room_many_in at h; match vs, h with | [_], _ => rfl) (t_Room_many_in K) (fun cdv A outer s H E hr => ?_) (pure_Room_many_in W.txt_Room)
  have nd := sc_Room_many_in.nd
  exact (pss_one (ps_ret (pe_callB1 call_len_seq (by rfl) (W.free 1 rfl) (by decide +kernel) (pe_fl (pv 0) rfl))))
theorem sc_Room_first_run : FnScope N_Room_first_run P_Room_first_run (defScope s_Room_first_run) := ⟨rfl, rfl, rfl, by decide +kernel, rfl, by decide +kernel, by decide +kernel⟩
theorem ok_Room_first_run (W : Wd K mg) : Can P w K mg base 1 ("Room", some "first_run") P_Room_first_run (sp_Room_first_run K) := by
  obtain ⟨fd, F⟩ := W.c.def_ 22 (d := d_Room_first_run) rfl
  refine can_of F (F.bindsN fun _ _ _ _ _ _ us hl => match us, hl with | [_], _ => rfl) sc_Room_first_run (fun vs H Q E h => by unfold sp_Room_first_run at h; match vs, h with | [_], _ => rfl) (t_Room_first_run K) (fun cdv A outer s H E hr => ?_) (pure_Room_first_run W.txt_Room)
  have nd := sc_Room_first_run.nd
  exact (pss_one (ps_ret (pe_ifExp (pt_cmpR (opx_neE (hu_of hr)) (pe_fl (pv 0) rfl) (pe_lst pa_nil) (nomark _)) (pe_ixC ix_tup (pe_ixC ix_list (pe_fl (pv 0) rfl) pe_int (fun _ _ => rfl)) pe_int (fun _ _ => rfl)) pe_non)))
theorem sc_Room_swap : FnScope N_Room_swap P_Room_swap (defScope s_Room_swap) := ⟨rfl, rfl, rfl, by decide +kernel, rfl, by decide +kernel, by decide +kernel⟩
theorem ok_Room_swap (W : Wd K mg) : Can P w K mg base 1 ("Room", some "swap") P_Room_swap (sp_Room_swap K) := by
  obtain ⟨fd, F⟩ := W.c.def_ 23 (d := d_Room_swap) rfl
  refine can_of F (F.bindsN fun _ _ _ _ _ _ us hl => match us, hl with | [_, _, _], _ => rfl) sc_Room_swap (fun vs H Q E h => by unfold sp_Room_swap at h; match vs, h with | [_, _, _], _ => rfl) (t_Room_swap K) (fun cdv A outer s H E hr => ?_) (pure_Room_swap W.txt_Room)
  have nd := sc_Room_swap.nd
  exact (pss_one (ps_asg (pe_tup (pa_cons (pe_ix ix_list (pe_fl (pv 0) rfl) (pv 2) (fun _ _ => rfl)) (pa_cons (pe_ix ix_list (pe_fl (pv 0) rfl) (pv 1) (fun _ _ => rfl)) pa_nil))) (pg_tup rfl (pgs_cons (pg_sub (pe_fl (pv 0) rfl) (pv 1) set_list) (pgs_cons (pg_sub (pe_fl (pv 0) rfl) (pv 2) set_list) pgs_nil)))))
theorem sc_Room_is_less : FnScope N_Room_is_less P_Room_is_less (defScope s_Room_is_less) := ⟨rfl, rfl, rfl, by decide +kernel, rfl, by decide +kernel, by decide +kernel⟩
theorem ok_Room_is_less (W : Wd K mg) : Can P w K mg base 2 ("Room", some "is_less") P_Room_is_less (sp_Room_is_less K) := by
  obtain ⟨fd, F⟩ := W.c.def_ 24 (d := d_Room_is_less) rfl
  refine can_of F (F.bindsN fun _ _ _ _ _ _ us hl => match us, hl with | [_, _, _], _ => rfl) sc_Room_is_less (fun vs H Q E h => by unfold sp_Room_is_less at h; match vs, h with | [_, _, _], _ => rfl) (t_Room_is_less K) (fun cdv A outer s H E hr => ?_) (pure_Room_is_less W.txt_Room)
  have nd := sc_Room_is_less.nd
  exact (pss_cons (ps_if (pt_cmpR op_ne (pe_ixC ix_tup (pv 1) pe_int (fun _ _ => rfl)) (pe_ixC ix_tup (pv 2) pe_int (fun _ _ => rfl)) (nomark _)) (pss_one (ps_ret (pe_cmpR op_lt (pe_ixC ix_tup (pv 1) pe_int (fun _ _ => rfl)) (pe_ixC ix_tup (pv 2) pe_int (fun _ _ => rfl)) (nomark _)))) pss_nil)
    (pss_one (ps_ret (pe_callC (ok_is_before W) (hr.mono (by decide)) rfl (W.glo 32 rfl) (passes_call (takes_of rfl rfl rfl rfl) (fun _ _ _ _ h => h)) (pa_cons (pe_fl (pv 0) rfl) (pa_cons (pe_ixC ix_tup (pv 1) pe_int (fun _ _ => rfl)) (pa_cons (pe_ixC ix_tup (pv 2) pe_int (fun _ _ => rfl)) pa_nil)))))))
theorem sc_Room_lesser : FnScope N_Room_lesser P_Room_lesser (defScope s_Room_lesser) := ⟨rfl, rfl, rfl, by decide +kernel, rfl, by decide +kernel, by decide +kernel⟩
theorem ok_Room_lesser (W : Wd K mg) : Can P w K mg base 3 ("Room", some "lesser") P_Room_lesser (sp_Room_lesser K) := by
  obtain ⟨fd, F⟩ := W.c.def_ 25 (d := d_Room_lesser) rfl
  refine can_of F (F.bindsN fun _ _ _ _ _ _ us hl => match us, hl with | [_, _], _ => rfl) sc_Room_lesser (fun vs H Q E h => by unfold sp_Room_lesser at h; match vs, h with | [_, _], _ => rfl) (t_Room_lesser K) (fun cdv A outer s H E hr => ?_) (pure_Room_lesser W.txt_Room)
  have nd := sc_Room_lesser.nd
  exact (pss_cons (ps_setLc (i := 2) (own := [("place", 3)]) rfl nd rfl rfl (sw_true rfl rfl rfl (by decide +kernel)) (pi_tup (pe_tup (pa_cons (pe_opC op_add (pe_opD op_mul pe_int (pv 1)) pe_int) (pa_cons (pe_opC op_add (pe_opD op_mul pe_int (pv 1)) pe_int) pa_nil)))) (blkOk_by (own := [("place", 3)]) (N := N_Room_lesser) (sc := defScope s_Room_lesser) (by decide +kernel)) (fun _ _ _ _ _ => (pg_name (i := 3) nd rfl (Or.inl rfl))) (fun _ _ _ _ _ => (pts_one (pt_cmpR op_lt (pv 3) (pe_callB1 call_len_seq (by rfl) (W.free 1 rfl) (by decide +kernel) (pe_fl (pv 0) rfl)) (nomark _)))) (fun _ _ _ _ _ => (pv 3)))
    (pss_cons (ps_if (PW.pt (pw_and (pt_cmpRC op_eq (pe_callB1 call_len_seq (by rfl) (W.free 1 rfl) (by decide +kernel) (pv 2)) pe_int (nomark _)) (pw_and1 (pt_val (pe_methC (pv 0) (W.cls 38 rfl) (W.meth 37 rfl) (ok_Room_is_less W) (hr.mono (by decide)) (passes_call (takes_of rfl rfl rfl rfl) (fun _ _ _ _ h => h)) (pa_cons (pe_ix ix_list (pe_fl (pv 0) rfl) (pe_ixC ix_list (pv 2) pe_int (fun _ _ => rfl)) (fun _ _ => rfl)) (pa_cons (pe_ix ix_list (pe_fl (pv 0) rfl) (pe_ixC ix_list (pv 2) pe_int (fun _ _ => rfl)) (fun _ _ => rfl)) pa_nil))))))) (pss_one (ps_ret (pe_ixC ix_list (pv 2) pe_int (fun _ _ => rfl)))) pss_nil)
    (pss_one (ps_ret (pe_ifExp (pt_cmpR (opx_neE (hu_of hr)) (pv 2) (pe_lst pa_nil) (nomark _)) (pe_ixC ix_list (pv 2) pe_int (fun _ _ => rfl)) pe_non)))))
theorem sc_Room_take : FnScope N_Room_take P_Room_take (defScope s_Room_take) := ⟨rfl, rfl, rfl, by decide +kernel, rfl, by decide +kernel, by decide +kernel⟩
theorem ok_Room_take (W : Wd K mg) : Can P w K mg base 4 ("Room", some "take") P_Room_take (sp_Room_take K) := by
  obtain ⟨fd, F⟩ := W.c.def_ 26 (d := d_Room_take) rfl
  refine can_of F (F.bindsN fun _ _ _ _ _ _ us hl => match us, hl with | [_], _ => rfl) sc_Room_take (fun vs H Q E h => by unfold sp_Room_take at h; match vs, h with | [_], _ => rfl) (t_Room_take K) (fun cdv A outer s H E hr => ?_) (pure_Room_take W.txt_Room)
  have nd := sc_Room_take.nd
  exact (pss_cons (ps_expr (pe_methC (pv 0) (W.cls 38 rfl) (W.meth 39 rfl) (ok_Room_swap W) (hr.mono (by decide)) (passes_call (takes_of rfl rfl rfl rfl) (fun _ _ _ _ h => h)) (pa_consC pe_int (pa_cons (pe_opC op_sub (pe_callB1 call_len_seq (by rfl) (W.free 1 rfl) (by decide +kernel) (pe_fl (pv 0) rfl)) pe_int) pa_nil))))
    (pss_cons (ps_set (i := 1) nd rfl (Or.inl rfl) (pe_bm0 PySem.F.plainAttrs_list PySem.F.slot_list_pop PySem.F.type_list_pop mt_pop (pe_fl (pv 0) rfl)))
    (pss_cons (ps_set (i := 2) nd rfl (Or.inl rfl) pe_int)
    (pss_cons (ps_set (i := 3) nd rfl (Or.inl rfl) (pe_methC (pv 0) (W.cls 38 rfl) (W.meth 40 rfl) (ok_Room_lesser W) (hr.mono (by decide)) (passes_call (takes_of rfl rfl rfl rfl) (fun _ _ _ _ h => h)) (pa_cons (pv 2) pa_nil)))
    (pss_cons (ps_while (passes_of rfl) (PW.pt (pw_and (pt_cmpRC op_notN1 (pv 3) pe_non (nomark _)) (pw_and1 (pt_val (pe_methC (pv 0) (W.cls 38 rfl) (W.meth 37 rfl) (ok_Room_is_less W) (hr.mono (by decide)) (passes_call (takes_of rfl rfl rfl rfl) (fun _ _ _ _ h => h)) (pa_cons (pe_ix ix_list (pe_fl (pv 0) rfl) (pv 3) (fun _ _ => rfl)) (pa_cons (pe_ix ix_list (pe_fl (pv 0) rfl) (pv 2) (fun _ _ => rfl)) pa_nil))))))) (pss_cons (ps_expr (pe_methC (pv 0) (W.cls 38 rfl) (W.meth 39 rfl) (ok_Room_swap W) (hr.mono (by decide)) (passes_call (takes_of rfl rfl rfl rfl) (fun _ _ _ _ h => h)) (pa_cons (pv 2) (pa_cons (pv 3) pa_nil))))
    (pss_cons (ps_set (i := 2) nd rfl (Or.inl rfl) (pv 3))
    (pss_one (ps_set (i := 3) nd rfl (Or.inl rfl) (pe_methC (pv 0) (W.cls 38 rfl) (W.meth 40 rfl) (ok_Room_lesser W) (hr.mono (by decide)) (passes_call (takes_of rfl rfl rfl rfl) (fun _ _ _ _ h => h)) (pa_cons (pv 2) pa_nil)))))))
    (pss_one (ps_ret (pv 1))))))))
theorem sc_Maker_goes : FnScope N_Maker_goes P_Maker_goes (defScope s_Maker_goes) := ⟨rfl, rfl, rfl, by decide +kernel, rfl, by decide +kernel, by decide +kernel⟩
theorem ok_Maker_goes (W : Wd K mg) : Can P w K mg base 5 ("Maker", some "goes") P_Maker_goes (sp_Maker_goes K) := by
  obtain ⟨fd, F⟩ := W.c.def_ 27 (d := d_Maker_goes) rfl
  refine can_of F (F.bindsN fun _ _ _ _ _ _ us hl => match us, hl with | [_], _ => rfl) sc_Maker_goes (fun vs H Q E h => by unfold sp_Maker_goes at h; match vs, h with | [_], _ => rfl) (t_Maker_goes K) (fun cdv A outer s H E hr => ?_) (pure_Maker_goes W.txt_Maker)
  have nd := sc_Maker_goes.nd
  exact (pss_cons (ps_if (pt_cmpR op_ne (pe_methC0 (pe_fl (pv 0) rfl) (W.cls 38 rfl) (W.meth 41 rfl) (ok_Room_first_run W) (hr.mono (by decide)) (passes_call (takes_of rfl rfl rfl rfl) (fun _ _ _ _ h => h))) (pe_fl (pv 0) rfl) (nomark _)) (pss_one (ps_ret pe_non)) pss_nil)
    (pss_cons (ps_fl (pv 0) (pe_ixC ix_tup (pe_methC0 (pe_fl (pv 0) rfl) (W.cls 38 rfl) (W.meth 42 rfl) (ok_Room_take W) (hr.mono (by decide)) (passes_call (takes_of rfl rfl rfl rfl) (fun _ _ _ _ h => h))) pe_int (fun _ _ => rfl)) rfl)
    (pss_one (ps_ret (pe_fl (pv 0) rfl)))))
theorem sc_Maker_has_space : FnScope N_Maker_has_space P_Maker_has_space (defScope s_Maker_has_space) := ⟨rfl, rfl, rfl, by decide +kernel, rfl, by decide +kernel, by decide +kernel⟩
theorem ok_Maker_has_space (W : Wd K mg) : Can P w K mg base 2 ("Maker", some "has_space") P_Maker_has_space (sp_Maker_has_space K) := by
  obtain ⟨fd, F⟩ := W.c.def_ 28 (d := d_Maker_has_space) rfl
  refine can_of F (F.bindsN fun _ _ _ _ _ _ us hl => match us, hl with | [_], _ => rfl) sc_Maker_has_space (fun vs H Q E h => by unfold sp_Maker_has_space at h; match vs, h with | [_], _ => rfl) (t_Maker_has_space K) (fun cdv A outer s H E hr => ?_) (pure_Maker_has_space W.txt_Maker)
  have nd := sc_Maker_has_space.nd
  exact (pss_one (ps_ret (pe_cmpR op_lt (pe_methC0 (pe_fl (pv 0) rfl) (W.cls 38 rfl) (W.meth 43 rfl) (ok_Room_many_in W) (hr.mono (by decide)) (passes_call (takes_of rfl rfl rfl rfl) (fun _ _ _ _ h => h))) (pe_fl (pv 0) rfl) (nomark _))))
theorem sc_Room_put : FnScope N_Room_put P_Room_put (defScope s_Room_put) := ⟨rfl, rfl, rfl, by decide +kernel, rfl, by decide +kernel, by decide +kernel⟩
theorem ok_Room_put (W : Wd K mg) : Can P w K mg base 3 ("Room", some "put") P_Room_put (sp_Room_put K) := by
  obtain ⟨fd, F⟩ := W.c.def_ 29 (d := d_Room_put) rfl
  refine can_of F (F.bindsN fun _ _ _ _ _ _ us hl => match us, hl with | [_, _, _], _ => rfl) sc_Room_put (fun vs H Q E h => by unfold sp_Room_put at h; match vs, h with | [_, _, _], _ => rfl) (t_Room_put K) (fun cdv A outer s H E hr => ?_) (pure_Room_put W.txt_Room)
  have nd := sc_Room_put.nd
  exact (pss_cons (ps_expr (pe_bm PySem.F.plainAttrs_list PySem.F.slot_list_append PySem.F.type_list_append mt_append (pe_fl (pv 0) rfl) (pa_cons (pe_tup (pa_cons (pv 1) (pa_cons (pv 2) pa_nil))) pa_nil)))
    (pss_cons (ps_set (i := 3) nd rfl (Or.inl rfl) (pe_opC op_sub (pe_callB1 call_len_seq (by rfl) (W.free 1 rfl) (by decide +kernel) (pe_fl (pv 0) rfl)) pe_int))
    (pss_one (ps_while (passes_of rfl) (PW.pt (pw_and (pt_cmpRC op_gt (pv 3) pe_int (nomark _)) (pw_and1 (pt_val (pe_methC (pv 0) (W.cls 38 rfl) (W.meth 37 rfl) (ok_Room_is_less W) (hr.mono (by decide)) (passes_call (takes_of rfl rfl rfl rfl) (fun _ _ _ _ h => h)) (pa_cons (pe_ix ix_list (pe_fl (pv 0) rfl) (pv 3) (fun _ _ => rfl)) (pa_cons (pe_ix ix_list (pe_fl (pv 0) rfl) (pe_opC op_fdivW (pe_opC op_sub (pv 3) pe_int) pe_int) (fun _ _ => rfl)) pa_nil))))))) (pss_cons (ps_expr (pe_methC (pv 0) (W.cls 38 rfl) (W.meth 39 rfl) (ok_Room_swap W) (hr.mono (by decide)) (passes_call (takes_of rfl rfl rfl rfl) (fun _ _ _ _ h => h)) (pa_cons (pv 3) (pa_cons (pe_opC op_fdivW (pe_opC op_sub (pv 3) pe_int) pe_int) pa_nil))))
    (pss_one (ps_set (i := 3) nd rfl (Or.inl rfl) (pe_opC op_fdivW (pe_opC op_sub (pv 3) pe_int) pe_int))))))))
theorem sc_Maker_come : FnScope N_Maker_come P_Maker_come (defScope s_Maker_come) := ⟨rfl, rfl, rfl, by decide +kernel, rfl, by decide +kernel, by decide +kernel⟩
theorem ok_Maker_come (W : Wd K mg) : Can P w K mg base 4 ("Maker", some "come") P_Maker_come (sp_Maker_come K) := by
  obtain ⟨fd, F⟩ := W.c.def_ 30 (d := d_Maker_come) rfl
  refine can_of F (F.bindsN fun _ _ _ _ _ _ us hl => match us, hl with | [_, _], _ => rfl) sc_Maker_come (fun vs H Q E h => by unfold sp_Maker_come at h; match vs, h with | [_, _], _ => rfl) (t_Maker_come K) (fun cdv A outer s H E hr => ?_) (pure_Maker_come W.txt_Maker)
  have nd := sc_Maker_come.nd
  exact (pss_cons (ps_set (i := 2) nd rfl (Or.inl rfl) (pe_and (pe_cmpRC op_notN1 (pe_fl (pv 0) rfl) pe_non (nomark _)) (pe_one (pe_callC (ok_is_before W) (hr.mono (by decide)) rfl (W.glo 32 rfl) (passes_call (takes_of rfl rfl rfl rfl) (fun _ _ _ _ h => h)) (pa_cons (pe_fl (pv 0) rfl) (pa_cons (pv 1) (pa_cons (pe_fl (pv 0) rfl) pa_nil)))))))
    (pss_one (ps_expr (pe_methC (pe_fl (pv 0) rfl) (W.cls 38 rfl) (W.meth 44 rfl) (ok_Room_put W) (hr.mono (by decide)) (passes_call (takes_of rfl rfl rfl rfl) (fun _ _ _ _ h => h)) (pa_cons (pe_op op_add (pe_fl (pv 0) rfl) (pe_callTy1 call_int1 (by rfl) (W.free 2 rfl) (by decide +kernel) (pv 2))) (pa_cons (pv 1) pa_nil))))))
theorem sc_exchanged : FnScope N_exchanged P_exchanged (defScope s_exchanged) := ⟨rfl, rfl, rfl, by decide +kernel, rfl, by decide +kernel, by decide +kernel⟩
theorem ok_exchanged (W : Wd K mg) : Can P w K mg base 6 ("exchanged", none) P_exchanged (sp_exchanged K) := by
  obtain ⟨fd, F⟩ := W.c.def_ 31 (d := d_exchanged) rfl
  refine can_of F (F.bindsN fun _ _ _ _ _ _ us hl => match us, hl with | [_, _, _, _], _ => rfl) sc_exchanged (fun vs H Q E h => by unfold sp_exchanged at h; match vs, h with | [_, _, _, _], _ => rfl) (t_exchanged K) (fun cdv A outer s H E hr => ?_) (pure_exchanged W.txt_Maker)
  have nd := sc_exchanged.nd
  exact (pss_cons (ps_expr (pe_callC (ok_need_making W) (hr.mono (by decide)) rfl (W.glo 35 rfl) (passes_call (takes_of rfl rfl rfl rfl) (fun _ _ _ _ h => h)) (pa_cons (pv 0) (pa_cons (pv 1) (pa_cons (pv 2) (pa_cons (pv 3) pa_nil))))))
    (pss_cons (ps_set (i := 4) nd rfl (Or.inl rfl) (pe_makeC (W.mkr 45 rfl) (ok_Maker___init__ W) (hr.mono (by decide)) rfl (W.glo 46 rfl) (passes_call (takes_of rfl rfl rfl rfl) (fun _ _ _ _ h => h)) (pa_cons (pe_callTy1 call_list_of (by rfl) (W.free 0 rfl) (by decide +kernel) (pv 1)) (pa_cons (pv 2) pa_nil))))
    (pss_cons (ps_set (i := 5) nd rfl (Or.inl rfl) (pe_callC (ok_numbered W) (hr.mono (by decide)) rfl (W.glo 36 rfl) (passes_call (takes_of rfl rfl rfl rfl) (fun _ _ _ _ h => h)) (pa_cons (pv 3) pa_nil)))
    (pss_cons (ps_set (i := 6) nd rfl (Or.inl rfl) (pe_lst pa_nil))
    (pss_cons (ps_while (passes_of rfl) (PW.pt (pw_or (pt_cmpR (opx_neE (hu_of hr)) (pv 5) (pe_lst pa_nil) (nomark _)) (pw_or1 (pt_cmpRC op_gt (pe_methC0 (pe_fl (pv 4) rfl) (W.cls 38 rfl) (W.meth 43 rfl) (ok_Room_many_in W) (hr.mono (by decide)) (passes_call (takes_of rfl rfl rfl rfl) (fun _ _ _ _ h => h))) pe_int (nomark _))))) (pss_cons (ps_set (i := 7) nd rfl (Or.inl rfl) (pe_lst pa_nil))
    (pss_cons (ps_set (i := 8) nd rfl (Or.inl rfl) (pe_tup (pa_consC pe_int (pa_consC pe_non pa_nil))))
    (pss_cons (ps_while (passes_of rfl) (pt_cmpRC op_notN1 (pv 8) pe_non (nomark _)) (pss_cons (ps_while (passes_of rfl) (PW.pt (pw_and (pt_cmpR (opx_neE (hu_of hr)) (pv 5) (pe_lst pa_nil) (nomark _)) (pw_and1 (pt_val (pe_methC0 (pv 4) (W.cls 48 rfl) (W.meth 47 rfl) (ok_Maker_has_space W) (hr.mono (by decide)) (passes_call (takes_of rfl rfl rfl rfl) (fun _ _ _ _ h => h))))))) (pss_one (ps_expr (pe_methC (pv 4) (W.cls 48 rfl) (W.meth 49 rfl) (ok_Maker_come W) (hr.mono (by decide)) (passes_call (takes_of rfl rfl rfl rfl) (fun _ _ _ _ h => h)) (pa_cons (pe_bm PySem.F.plainAttrs_list PySem.F.slot_list_pop PySem.F.type_list_pop mt_popAt (pv 5) (pa_consC pe_int pa_nil)) pa_nil)))))
    (pss_cons (ps_set (i := 8) nd rfl (Or.inl rfl) (pe_methC0 (pv 4) (W.cls 48 rfl) (W.meth 50 rfl) (ok_Maker_goes W) (hr.mono (by decide)) (passes_call (takes_of rfl rfl rfl rfl) (fun _ _ _ _ h => h))))
    (pss_one (ps_if (pt_cmpRC op_notN1 (pv 8) pe_non (nomark _)) (pss_one (ps_expr (pe_bm PySem.F.plainAttrs_list PySem.F.slot_list_append PySem.F.type_list_append mt_append (pv 7) (pa_cons (pv 8) pa_nil)))) pss_nil)))))
    (pss_cons (ps_expr (pe_bm PySem.F.plainAttrs_list PySem.F.slot_list_append PySem.F.type_list_append mt_append (pv 6) (pa_cons (pv 7) pa_nil)))
    (pss_one (ps_expr (pe_methC0 (pv 4) (W.cls 48 rfl) (W.meth 51 rfl) (ok_Maker_turn W) (hr.mono (by decide)) (passes_call (takes_of rfl rfl rfl rfl) (fun _ _ _ _ h => h))))))))))
    (pss_one (ps_ret (pv 6))))))))
theorem sc_law_pairs : FnScope N_law_pairs P_law_pairs (defScope s_law_pairs) := ⟨rfl, rfl, rfl, by decide +kernel, rfl, by decide +kernel, by decide +kernel⟩
theorem ok_law_pairs (W : Wd K mg) : Can P w K mg base 1 ("_law_pairs", none) P_law_pairs (sp_law_pairs K) := by
  obtain ⟨fd, F⟩ := W.c.def_ 32 (d := d_law_pairs) rfl
  refine can_of F (F.bindsN fun _ _ _ _ _ _ us hl => match us, hl with | [_], _ => rfl) sc_law_pairs (fun vs H Q E h => by unfold sp_law_pairs at h; match vs, h with | [_], _ => rfl) (t_law_pairs K) (fun cdv A outer s H E hr => ?_) (pure_law_pairs)
  have nd := sc_law_pairs.nd
  exact (pss_one (ps_ret (pe_lc (own := [("_law_k", 1)]) rfl nd (pi_range1 (by rfl) (W.free 4 rfl) (pa_cons (pe_callB1 call_len_seq (by rfl) (W.free 1 rfl) (by decide +kernel) (pv 0)) pa_nil)) (blkOk_by (own := [("_law_k", 1)]) (N := N_law_pairs) (sc := defScope s_law_pairs) (by decide +kernel)) (fun _ _ _ _ _ => (pg_name (i := 1) nd rfl (Or.inl rfl))) (fun _ _ _ _ _ => pts_nil) (fun _ _ _ _ _ => (pe_tup (pa_cons (pv 1) (pa_cons (pe_ix ix_list (pv 0) (pv 1) (fun _ _ => rfl)) pa_nil)))))))
theorem sc_law_ahead : FnScope N_law_ahead P_law_ahead (defScope s_law_ahead) := ⟨rfl, rfl, rfl, by decide +kernel, rfl, by decide +kernel, by decide +kernel⟩
theorem ok_law_ahead (W : Wd K mg) : Can P w K mg base 1 ("_law_ahead", none) P_law_ahead (sp_law_ahead K) := by
  obtain ⟨fd, F⟩ := W.c.def_ 33 (d := d_law_ahead) rfl
  refine can_of F (F.bindsN fun _ _ _ _ _ _ us hl => match us, hl with | [_, _, _], _ => rfl) sc_law_ahead (fun vs H Q E h => by unfold sp_law_ahead at h; match vs, h with | [_, _, _], _ => rfl) (t_law_ahead K) (fun cdv A outer s H E hr => ?_) (pure_law_ahead)
  have nd := sc_law_ahead.nd
  exact (pss_cons (ps_for (passes_of rfl) rfl (pi_list (pv 0)) (pg_tup rfl (pgs_cons (pg_name (i := 3) nd rfl (Or.inl rfl)) (pgs_cons (pg_name (i := 4) nd rfl (Or.inl rfl)) pgs_nil))) (pss_cons (ps_par (i := 5) (j := 6) rfl nd rfl rfl (by decide) rfl rfl (pa_cons (pe_ix ix_tup (pe_ixC ix_tup (pv 1) pe_int (fun _ _ => rfl)) (pv 3) (fun _ _ => rfl)) (pa_cons (pe_ix ix_tup (pe_ixC ix_tup (pv 2) pe_int (fun _ _ => rfl)) (pv 3) (fun _ _ => rfl)) pa_nil)) (by rfl))
    (pss_one (ps_if (pt_cmpR op_ne (pv 5) (pv 6) (nomark _)) (pss_one (ps_ret (pe_ifExp (pt_cmpRC op_eq (pv 4) pe_str (nomark _)) (pe_cmpR opx_ltV (pv 5) (pv 6) (nomark _)) (pe_cmpR opx_gtV (pv 5) (pv 6) (nomark _))))) pss_nil))))
    (pss_one (ps_ret (pe_cmpR op_lt (pe_ixC ix_tup (pv 1) pe_int (fun _ _ => rfl)) (pe_ixC ix_tup (pv 2) pe_int (fun _ _ => rfl)) (nomark _)))))
theorem sc_law_right : FnScope N_law_right P_law_right (defScope s_law_right) := ⟨rfl, rfl, rfl, by decide +kernel, rfl, by decide +kernel, by decide +kernel⟩
theorem ok_law_right (W : Wd K mg) : Can P w K mg base 2 ("_law_right", none) P_law_right (sp_law_right K) := by
  obtain ⟨fd, F⟩ := W.c.def_ 34 (d := d_law_right) rfl
  refine can_of F (F.bindsN fun _ _ _ _ _ _ us hl => match us, hl with | [_, _, _], _ => rfl) sc_law_right (fun vs H Q E h => by unfold sp_law_right at h; match vs, h with | [_, _, _], _ => rfl) (t_law_right K) (fun cdv A outer s H E hr => ?_) (pure_law_right)
  have nd := sc_law_right.nd
  exact (pss_cons (ps_set (i := 3) nd rfl (Or.inl rfl) (pe_lst pa_nil))
    (pss_cons (ps_for (passes_of rfl) rfl (pi_list (pv 2)) (pg_name (i := 4) nd rfl (Or.inl rfl)) (pss_cons (ps_if (pt_cmpR (opx_eqE (hu_of hr)) (pv 4) (pe_lst pa_nil) (nomark _)) (pss_one (ps_ret pe_bl)) pss_nil)
    (pss_cons (ps_for (passes_of rfl) rfl (pi_range2 (by rfl) (W.free 4 rfl) (pa_consC pe_int (pa_cons (pe_callB1 call_len_seq (by rfl) (W.free 1 rfl) (by decide +kernel) (pv 4)) pa_nil))) (pg_name (i := 5) nd rfl (Or.inl rfl)) (pss_one (ps_if (pt_not (pt_val (pe_callC (ok_law_ahead W) (hr.mono (by decide)) rfl (W.glo 52 rfl) (passes_call (takes_of rfl rfl rfl rfl) (fun _ _ _ _ h => h)) (pa_cons (pv 0) (pa_cons (pe_ix ix_list (pv 4) (pe_opC op_sub (pv 5) pe_int) (fun _ _ => rfl)) (pa_cons (pe_ix ix_list (pv 4) (pv 5) (fun _ _ => rfl)) pa_nil)))))) (pss_one (ps_ret pe_bl)) pss_nil)))
    (pss_one (ps_expr (pe_bm PySem.F.plainAttrs_list PySem.F.slot_list_extend PySem.F.type_list_extend mt_extend (pv 3) (pa_cons (pv 4) pa_nil)))))))
    (pss_one (ps_ret (pe_cmpR (op_eqD (hu64 hr)) (pe_callB1 cr_sortN (by rfl) (W.free 53 rfl) (by decide +kernel) (pv 3)) (pe_callC (ok_law_pairs W) (hr.mono (by decide)) rfl (W.glo 54 rfl) (passes_call (takes_of rfl rfl rfl rfl) (fun _ _ _ _ h => h)) (pa_cons (pv 1) pa_nil)) (nomark _))))))
theorem sc_law_sorted : FnScope N_law_sorted P_law_sorted (defScope s_law_sorted) := ⟨rfl, rfl, rfl, by decide +kernel, rfl, by decide +kernel, by decide +kernel⟩
theorem ok_law_sorted (W : Wd K mg) : Can P w K mg base 2 ("_law_sorted", none) P_law_sorted (sp_law_sorted K) := by
  obtain ⟨fd, F⟩ := W.c.def_ 35 (d := d_law_sorted) rfl
  refine can_of F (F.bindsN fun _ _ _ _ _ _ us hl => match us, hl with | [_, _], _ => rfl) sc_law_sorted (fun vs H Q E h => by unfold sp_law_sorted at h; match vs, h with | [_, _], _ => rfl) (t_law_sorted K) (fun cdv A outer s H E hr => ?_) (pure_law_sorted)
  have nd := sc_law_sorted.nd
  exact (pss_cons (ps_set (i := 2) nd rfl (Or.inl rfl) (pe_lst pa_nil))
    (pss_cons (ps_for (passes_of rfl) rfl (pi_list (pv 1)) (pg_name (i := 3) nd rfl (Or.inl rfl)) (pss_cons (ps_par (i := 4) (j := 5) rfl nd rfl rfl (by decide) rfl rfl (pa_consC pe_int (pa_cons (pe_callB1 call_len_seq (by rfl) (W.free 1 rfl) (by decide +kernel) (pv 2)) pa_nil)) (by rfl))
    (pss_cons (ps_while (passes_of rfl) (pt_cmpR op_lt (pv 4) (pv 5) (nomark _)) (pss_cons (ps_set (i := 6) nd rfl (Or.inl rfl) (pe_opC op_fdivW (pe_op op_add (pv 4) (pv 5)) pe_int))
    (pss_one (ps_if (pt_val (pe_callC (ok_law_ahead W) (hr.mono (by decide)) rfl (W.glo 52 rfl) (passes_call (takes_of rfl rfl rfl rfl) (fun _ _ _ _ h => h)) (pa_cons (pv 0) (pa_cons (pv 3) (pa_cons (pe_ix ix_list (pv 2) (pv 6) (fun _ _ => rfl)) pa_nil))))) (pss_one (ps_set (i := 5) nd rfl (Or.inl rfl) (pv 6))) (pss_one (ps_set (i := 4) nd rfl (Or.inl rfl) (pe_opC op_add (pv 6) pe_int)))))))
    (pss_one (ps_expr (pe_bm PySem.F.plainAttrs_list PySem.F.slot_list_insert PySem.F.type_list_insert mt_insert (pv 2) (pa_cons (pv 4) (pa_cons (pv 3) pa_nil))))))))
    (pss_one (ps_ret (pv 2)))))
theorem sc_law : FnScope N_law P_law (defScope s_law) := ⟨rfl, rfl, rfl, by decide +kernel, rfl, by decide +kernel, by decide +kernel⟩
theorem fn_law (W : Wd K mg) {fd : FuncData} (F : FunD K d_law.name d_law.qual d_law.params d_law.body d_law.scope [] [] (He.fAd K d_law.at_) fd) : FnOk P w K mg base (L2.CX P w) 13 (He.fAd K d_law.at_) fd P_law (sp_law K) := by
  refine F.ok sc_law (fun vs H Q E h => by unfold sp_law at h; match vs, h with | [_], _ => rfl) (fun cdv A outer s H vs Q E hr hsp => ⟨t_law K E, ?_, pure_law vs H Q E hsp⟩)
  have nd := sc_law.nd
  exact (pss_cons (ps_set (i := 1) nd rfl (Or.inl rfl) (pe_callC (ok_law_begun W) (hr.mono (by decide)) rfl (W.glo 55 rfl) (passes_call (takes_of rfl rfl rfl rfl) (fun _ _ _ _ h => h)) (pa_cons (pv 0) pa_nil)))
    (pss_cons (ps_for (passes_of rfl) rfl (pi_range1 (by rfl) (W.free 4 rfl) (pa_consC pe_int pa_nil)) (pg_name (i := 2) nd rfl (Or.inl rfl)) (pss_cons (ps_set (i := 3) nd rfl (Or.inl rfl) (pe_callC (ok_law_kinds W) (hr.mono (by decide)) rfl (W.glo 56 rfl) (passes_call (takes_of rfl rfl rfl rfl) (fun _ _ _ _ h => h)) (pa_cons (pv 1) pa_nil)))
    (pss_cons (ps_set (i := 4) nd rfl (Or.inl rfl) (pe_callC (ok_law_order W) (hr.mono (by decide)) rfl (W.glo 57 rfl) (passes_call (takes_of rfl rfl rfl rfl) (fun _ _ _ _ h => h)) (pa_cons (pv 1) (pa_cons (pv 3) pa_nil))))
    (pss_cons (ps_set (i := 5) nd rfl (Or.inl rfl) (pe_callC (ok_law_rows W) (hr.mono (by decide)) rfl (W.glo 58 rfl) (passes_call (takes_of rfl rfl rfl rfl) (fun _ _ _ _ h => h)) (pa_cons (pv 1) (pa_cons (pv 3) (pa_consC pe_int pa_nil)))))
    (pss_cons (ps_set (i := 6) nd rfl (Or.inr rfl) (pe_opD op_add pe_int (pe_callC (ok_law_take W) (hr.mono (by decide)) rfl (W.glo 3 rfl) (passes_call (takes_of rfl rfl rfl rfl) (fun _ _ _ _ h => h)) (pa_cons (pv 1) (pa_consC pe_int pa_nil)))))
    (pss_cons (ps_par (i := 7) (j := 8) rfl nd rfl rfl (by decide) rfl rfl (pa_cons (pe_callC (ok_filled W) (hr.mono (by decide)) rfl (W.glo 59 rfl) (passes_call (takes_of rfl rfl rfl rfl) (fun _ _ _ _ h => h)) (pa_cons (pv 3) (pa_cons (pv 4) (pa_cons (pv 6) (pa_cons (pv 5) pa_nil))))) (pa_cons (pe_callC (ok_exchanged W) (hr.mono (by decide)) rfl (W.glo 60 rfl) (passes_call (takes_of rfl rfl rfl rfl) (fun _ _ _ _ h => h)) (pa_cons (pv 3) (pa_cons (pv 4) (pa_cons (pv 6) (pa_cons (pv 5) pa_nil))))) pa_nil)) (by rfl))
    (pss_cons (ps_if (PW.pt (pw_or (pt_not (pt_val (pe_callC (ok_law_right W) (hr.mono (by decide)) rfl (W.glo 61 rfl) (passes_call (takes_of rfl rfl rfl rfl) (fun _ _ _ _ h => h)) (pa_cons (pv 4) (pa_cons (pv 5) (pa_cons (pv 7) pa_nil)))))) (pw_or (pt_not (pt_val (pe_callC (ok_law_right W) (hr.mono (by decide)) rfl (W.glo 61 rfl) (passes_call (takes_of rfl rfl rfl rfl) (fun _ _ _ _ h => h)) (pa_cons (pv 4) (pa_cons (pv 5) (pa_cons (pv 8) pa_nil)))))) (pw_or1 (pt_cmpR op_gt (pe_callB1 call_len_seq (by rfl) (W.free 1 rfl) (by decide +kernel) (pv 8)) (pe_callB1 call_len_seq (by rfl) (W.free 1 rfl) (by decide +kernel) (pv 7)) (nomark _)))))) (pss_one (ps_ret pe_bl)) pss_nil)
    (pss_cons (ps_if (pt_cmpR (opx_neE (hu_of hr)) (pe_lc (own := [("_law_run", 14)]) rfl nd (pi_list (pe_slice sl_list (pv 7) po_none (po_some (pe_unN pe_int)))) (blkOk_by (own := [("_law_run", 14)]) (N := N_law) (sc := defScope s_law) (by decide +kernel)) (fun _ _ _ _ _ => (pg_name (i := 14) nd rfl (Or.inl rfl))) (fun _ _ _ _ _ => (pts_one (pt_cmpR op_ne (pe_callB1 call_len_seq (by rfl) (W.free 1 rfl) (by decide +kernel) (pv 14)) (pv 6) (nomark _)))) (fun _ _ _ _ _ => (pv 14))) (pe_lst pa_nil) (nomark _)) (pss_one (ps_ret pe_bl)) pss_nil)
    (pss_cons (ps_if (pt_cmpR (opx_neE (hu_of hr)) (pe_lc (own := [("_law_run", 14)]) rfl nd (pi_list (pe_slice sl_list (pv 8) po_none (po_some (pe_unN pe_int)))) (blkOk_by (own := [("_law_run", 14)]) (N := N_law) (sc := defScope s_law) (by decide +kernel)) (fun _ _ _ _ _ => (pg_name (i := 14) nd rfl (Or.inl rfl))) (fun _ _ _ _ _ => (pts_one (pt_cmpR op_lt (pe_callB1 call_len_seq (by rfl) (W.free 1 rfl) (by decide +kernel) (pv 14)) (pv 6) (nomark _)))) (fun _ _ _ _ _ => (pv 14))) (pe_lst pa_nil) (nomark _)) (pss_one (ps_ret pe_bl)) pss_nil)
    (pss_cons (ps_setLc (i := 9) (own := [("_law_number", 15), ("_law_row", 11)]) rfl nd rfl rfl (sw_true rfl rfl rfl (by decide +kernel)) (pi_list (pe_callC (ok_law_sorted W) (hr.mono (by decide)) rfl (W.glo 62 rfl) (passes_call (takes_of rfl rfl rfl rfl) (fun _ _ _ _ h => h)) (pa_cons (pv 4) (pa_cons (pe_callC (ok_law_pairs W) (hr.mono (by decide)) rfl (W.glo 54 rfl) (passes_call (takes_of rfl rfl rfl rfl) (fun _ _ _ _ h => h)) (pa_cons (pv 5) pa_nil)) pa_nil)))) (blkOk_by (own := [("_law_number", 15), ("_law_row", 11)]) (N := N_law) (sc := defScope s_law) (by decide +kernel)) (fun _ _ _ _ _ => (pg_tup rfl (pgs_cons (pg_name (i := 15) nd rfl (Or.inl rfl)) (pgs_cons (pg_name (i := 11) nd rfl (Or.inl rfl)) pgs_nil)))) (fun _ _ _ _ _ => pts_nil) (fun _ _ _ _ _ => (pv 11)))
    (pss_cons (ps_if (pt_cmpR op_ne (pe_callB1 call_len_seq (by rfl) (W.free 1 rfl) (by decide +kernel) (pe_callC (ok_exchanged W) (hr.mono (by decide)) rfl (W.glo 60 rfl) (passes_call (takes_of rfl rfl rfl rfl) (fun _ _ _ _ h => h)) (pa_cons (pv 3) (pa_cons (pv 4) (pa_cons (pv 6) (pa_cons (pv 9) pa_nil)))))) (pe_callTy1 call_int1 (by rfl) (W.free 2 rfl) (by decide +kernel) (pe_cmpR (opx_neE (hu_of hr)) (pv 5) (pe_lst pa_nil) (nomark _))) (nomark _)) (pss_one (ps_ret pe_bl)) pss_nil)
    (pss_cons (ps_set (i := 10) nd rfl (Or.inl rfl) (pe_lst pa_nil))
    (pss_cons (ps_for (passes_of rfl) rfl (pi_list (pe_revL (pv 9))) (pg_name (i := 11) nd rfl (Or.inr rfl)) (pss_cons (ps_set (i := 12) nd rfl (Or.inr rfl) (pe_ifExp (pt_cmpR (opx_neE (hu_of hr)) (pv 10) (pe_lst pa_nil) (nomark _)) (pe_ixC ix_list (pv 10) (pe_unN pe_int) (fun _ _ => rfl)) (pe_tup pa_nil)))
    (pss_cons (ps_setLc (i := 13) (own := [("_law_column", 16), ("_law_way", 17)]) rfl nd rfl rfl (sw_true rfl rfl rfl (by decide +kernel)) (pi_list (pv 4)) (blkOk_by (own := [("_law_column", 16), ("_law_way", 17)]) (N := N_law) (sc := defScope s_law) (by decide +kernel)) (fun _ _ _ _ _ => (pg_tup rfl (pgs_cons (pg_name (i := 16) nd rfl (Or.inl rfl)) (pgs_cons (pg_name (i := 17) nd rfl (Or.inl rfl)) pgs_nil)))) (fun _ _ _ _ _ => (pts_one (PW.pt (pw_or (pt_cmpR (op_eqD (hu64 hr)) (pv 12) (pe_tup pa_nil) (nomark _)) (pw_or1 (pt_cmpR op_ne (pe_ix ix_tup (pv 11) (pv 16) (fun _ _ => rfl)) (pe_ix ix_tup (pv 12) (pv 16) (fun _ _ => rfl)) (nomark _))))))) (fun _ _ _ _ _ => (pv 16)))
    (pss_one (ps_if (pt_cmpR (opx_neE (hu_of hr)) (pv 13) (pe_lst pa_nil) (nomark _)) (pss_one (ps_expr (pe_bm PySem.F.plainAttrs_list PySem.F.slot_list_append PySem.F.type_list_append mt_append (pv 10) (pa_cons (pv 11) pa_nil)))) pss_nil)))))
    (pss_one (ps_if (pt_cmpR (opx_neE (hu_of hr)) (pe_lc (own := [("_law_run", 14)]) rfl nd (pi_list (pe_slice sl_list (pe_callC (ok_exchanged W) (hr.mono (by decide)) rfl (W.glo 60 rfl) (passes_call (takes_of rfl rfl rfl rfl) (fun _ _ _ _ h => h)) (pa_cons (pv 3) (pa_cons (pv 4) (pa_cons (pv 6) (pa_cons (pv 10) pa_nil))))) po_none (po_some (pe_unN pe_int)))) (blkOk_by (own := [("_law_run", 14)]) (N := N_law) (sc := defScope s_law) (by decide +kernel)) (fun _ _ _ _ _ => (pg_name (i := 14) nd rfl (Or.inl rfl))) (fun _ _ _ _ _ => (pts_one (pt_cmpR op_ne (pe_callB1 call_len_seq (by rfl) (W.free 1 rfl) (by decide +kernel) (pv 14)) (pv 6) (nomark _)))) (fun _ _ _ _ _ => (pv 14))) (pe_lst pa_nil) (nomark _)) (pss_one (ps_ret pe_bl)) pss_nil)))))))))))))))
    (pss_one (ps_ret pe_bl))))
end
end Lw
namespace Lw
open PySem PySem.Spec PyProof.Rows L2 Rs
/-! ### the head -/
def loose : List PySem.Str := (["_wall", "__name__", "SortError", "BadKinds", "BadOrder", "BadRows", "BadRoom", "NUMBER", "WORD", "MOST_COLUMNS", "MOST_NUMBER", "MOST_LETTERS", "LETTERS", "UP", "DOWN", "need_kinds", "is_turn", "need_order", "is_value", "is_row", "need_rows", "is_before", "joined", "in_order", "numbered", "Room", "MOST_ROOM", "MOST_ROWS", "need_making", "filled"] : List PySem.Str) ++ (["Maker", "exchanged", "_law_begun", "_law_take", "_law_kinds", "_law_order", "_law_value", "_law_rows", "_law_ahead", "_law_sorted", "_law_pairs", "_law_right"] : List PySem.Str)
abbrev R : PySem.W.OpenRow := PySem.W.OpenLaw.row PySem.Challenge.rw_runsorts_k04_whole_what_runs_are
abbrev hk : PySem.W.Hook := Hx.hookM fs fn
def ob (s : PySem.W.SharedT) : He.AlD := Hx.obsMG fs fn (HandSHeadRun.getT s)
theorem ob_eq (s : PySem.W.SharedT) : ob s = hk.obs s.abs := Hx.obsMG_eq (HandSHeadRun.getT_eq s)
theorem run (w : World) : HandSHeadRun.RunEq R (PySem.W.view R.prog [46]) hk ob 15000 loose w := by
  intro os
  kernel_rfl
/-- a promise that holds whatever may be raised: nothing is -/
theorem calm {P : Program} {w : World} {K : PySem.W.Frag} {mg : Str → Option Value} {base : Heap} {k : Nat} {f : Addr} {fd : FuncData} {ps : List Str} {sp : Sp} (F : FnOk P w K mg base (L2.CX P w) k f fd ps sp) (hE : ∀ vs H Q E, sp vs H Q E → sp vs H Q E0) : FnOk P w K mg base CX0 k f fd ps sp :=
  ⟨F.len, fun A outer s H args us vs Q E hr he hb hv hs => codeAny_mono (F.run A outer s H args us vs Q E0 hr he hb hv (hE _ _ _ _ hs)) fun r s' h => by
    cases r with
    | error e =>
      obtain ⟨_, _, _, _, _, _, _, _, _, _, _, _, hf⟩ := h
      exact hf.elim
    | ok fl => cases fl <;> exact h⟩
end Lw
open PySem PySem.W PySem.Calls PyProof.Rows
theorem PySem.Challenge.cw_runsorts_k04_whole_what_runs_are_holds : PySem.Challenge.rw_runsorts_k04_whole_what_runs_are.Holds := by
  w_on; o_law
  refine HandSHeadRun.head_any (r := OpenLaw.row PySem.Challenge.rw_runsorts_k04_whole_what_runs_are) (q := view (OpenLaw.row PySem.Challenge.rw_runsorts_k04_whole_what_runs_are).prog [46]) (H := Lw.hk) (ob := Lw.ob) (M := 15000) (loose := Lw.loose) (d := HandSHeadRun.topDef (OpenLaw.row PySem.Challenge.rw_runsorts_k04_whole_what_runs_are).prog 46) (kwd := []) Lw.ob_eq
    (by kernel_rfl) (fun s => by kernel_rfl) Lw.run (by kernel_rfl) (by kernel_rfl) (by kernel_rfl) (by rfl) (by first | assumption | decide +kernel) (by decide +kernel) ⟨rfl, rfl, rfl, rfl, rfl, by decide +kernel⟩ ?hw ?hc
  case hw => w_witness2
  case hc =>
    refine L2.walk_ofE (l := PySem.Challenge.rw_runsorts_k04_whole_what_runs_are) (n := 63) (k := 13) (x := "_law_script") (CX := L2.CX0) rfl (by decide) (by kernel_rfl) ⟨rfl, by decide, by decide⟩ ?F (fun _ _ _ _ z => z)
    intro w mg fa h Y G hmg0
    obtain ⟨K, KX, c⟩ := Y
    have hmg : mg ("law" : PySem.Str) = some (.ref fa) := by
      have e : (HandSHeadRun.topDef (OpenLaw.row PySem.Challenge.rw_runsorts_k04_whole_what_runs_are).prog 46).name = ("law" : PySem.Str) := by kernel_rfl
      rw [← e]
      exact hmg0
    have W : Lw.Wd K mg := ⟨c, h, KX, G⟩
    obtain ⟨fd, F⟩ := c.def_ 36 (d := Lw.d_law) rfl
    have e := hmg.symm.trans (W.glo 63 (x := "law") rfl)
    cases e
    have b := L2.FunD.bindsA (ps := ["_law_script"]) F fun _ _ _ _ _ _ us hl => match us, hl with | [_], _ => rfl
    exact ⟨K, fd, Rs.sp_law K, KX, fun s v => b s [v] rfl, fun H a ns hl _ hS => ⟨a, ns, rfl, hS, hl, fun _ => rfl⟩, fun base _ _ => Lw.calm (Lw.fn_law W F) fun vs H Q E h => h⟩
