import PyProof.Rows.All
import Wide.All
import OpenK.AllK
import Wide.FinOn
import PyProof.Walks
import PyProof.CompFree
import PyProof.Rows.Frame
import PyProof.Rows.RowBridgeG
import PyProof.CodeObjX
import PyProof.RangeIter
import PyProof.Rows.CellsFrame
import PyProof.DictKinds
import PyProof.Rows.RuleB_sub
import PyProof.Rows.RuleB_mul
import PyProof.Rows.RuleB_pow
import PyProof.Rows.RuleB_and
import PyProof.Rows.RuleB_lshift
import PyProof.Rows.RuleB_rshift
import PyProof.Rows.RuleB_mod
import PyProof.Rows.RuleB_floordiv
import PyProof.Rows.RuleC_int
import PyProof.Rows.RuleU_int
import PyProof.Rows.IntRules
import PyProof.Rows.ListMul
import PyProof.Rows.Tup
import PyProof.ListIndexNeg
import PyProof.SliceList
import PyProof.AutoSeq1
import PyProof.Rows.TupSub
import PyProof.Rows.StrTemp
import PyProof.Rows.SeqMore
import PyProof.ListMulAny
import PyProof.ListCopy
import PyProof.Methods
import PyProof.CallType
import PyProof.DefCall
import PyProof.Rows.TupIter
import PyProof.Rows.TupAssign
import PyProof.Rows.Range3
import PyProof.RangeFor
import PyProof.WalksMore
import PyProof.Rows.Method
import PyProof.DelItemList
import PyProof.RulesDel
import PyProof.RulesDelMore
import PyProof.Dict
import PyProof.Rows.EqDataRows
import PyProof.WalkInts
import PyProof.Rows.SumAny
import PyProof.Rows.RuleDivmod
import PyProof.Rows.RuleIs2
import PyProof.TypeOfCall
import PyProof.SeqI3
import PyProof.AttrMissHeap
import PyProof.DictCalls
import PyProof.DictList
import PyProof.Rows.DictSet
import KE.KDictOf
import KE.KSortTup
import PyProof.FactsAll.tuple_2
import PyProof.TupleKey
import PyProof.GenCompD
import PyProof.Rows.GenRowsK
import OpenK.KRaise
import PyProof.ExcFactsAll.ValueError
import PySem.Challenge.RW_sx_vsqueeze_7
set_option Elab.async false

section
open PySem PyProof.Rows
namespace Sq

abbrev HM := Addr → Option Obj
namespace HM
def le (K K' : HM) : Prop := ∀ a o, K a = some o → K' a = some o
def set (K : HM) (a : Addr) (o : Obj) : HM := fun b => if b = a then some o else K b
def join (M X : HM) : HM := fun a => (M a).or (X a)
theorem le.refl (K : HM) : le K K := fun _ _ e => e
theorem le.trans {K K' K'' : HM} (h : le K K') (h' : le K' K'') : le K K'' := fun a o e => h' a o (h a o e)
theorem set_self (K : HM) (a : Addr) (o : Obj) : K.set a o a = some o := if_pos rfl
theorem set_ne (K : HM) {a b : Addr} (o : Obj) (h : b ≠ a) : K.set a o b = K b := if_neg h
theorem le_set {K : HM} {a : Addr} {o : Obj} (h : K a = none) : le K (K.set a o) := fun b o' e => by
  by_cases q : b = a
  · subst q; rw [h] at e; cases e
  · rw [set_ne K o q]; exact e
theorem join_left {M X : HM} {a : Addr} {o : Obj} (h : M a = some o) : join M X a = some o := by simp [join, h]
theorem join_right {M X : HM} {a : Addr} (h : M a = none) : join M X a = X a := by simp [join, h]
theorem join_some {M X : HM} {a : Addr} {o : Obj} (h : join M X a = some o) : M a = some o ∨ (M a = none ∧ X a = some o) := by
  cases q : M a with
  | none => rw [join_right q] at h; exact .inr ⟨rfl, h⟩
  | some o' => rw [join_left q] at h; cases h; exact .inl rfl
theorem le_join (M X : HM) : le M (join M X) := fun _ _ e => join_left e
theorem join_set (M X : HM) (a : Addr) (o : Obj) : (join M X).set a o = join (M.set a o) X := by
  funext b
  by_cases q : b = a
  · subst q; rw [set_self, join_left (set_self ..)]
  · rw [set_ne _ _ q]; simp only [join, set_ne _ _ q]
theorem join_set_right {M X : HM} {a : Addr} {o : Obj} (h : M a = none) : (join M X).set a o = join M (X.set a o) := by
  funext b
  by_cases q : b = a
  · subst q; rw [set_self, join_right h, set_self]
  · rw [set_ne _ _ q]; simp only [join, set_ne _ _ q]
def emp : HM := fun _ => none
theorem emp_join (X : HM) : join emp X = X := by funext a; rfl
end HM

structure SE (o o' : Obj) : Prop where
  cls : o'.cls = o.cls
  dict : o'.dict = o.dict
  dat : o'.data = o.data
  eq : (∀ es ep, o.data ≠ .dict es ep) → o' = o
theorem SE.refl (o : Obj) : SE o o := ⟨rfl, rfl, rfl, fun _ => rfl⟩
theorem SE.trans {a b c : Obj} (h : SE a b) (h' : SE b c) : SE a c := ⟨h'.cls.trans h.cls, h'.dict.trans h.dict, h'.dat.trans h.dat, fun q => (h'.eq (by rw [h.dat]; exact q)).trans (h.eq q)⟩

structure Cx where
  prog : Program
  w : World
  K0 : HM
  P : Addr
  tab : Array Value → Prop
  os : OsState

abbrev Cx.md (C : Cx) : Model := model C.prog C.w

structure Inv (C : Cx) (K Y : HM) (s : Shared) : Prop where
  k : ∀ a o, K a = some o → s.heap.get? a = some o
  y : ∀ a o, Y a = some o → ∃ o', s.heap.get? a = some o' ∧ SE o o'
  dj : ∀ a o, Y a = some o → K a = none
  top : HM.le C.K0 K
  pk : K C.P = none
  py : Y C.P = none
  tab : ∃ ps, s.heap.get? C.P = some { cls := .none, data := .fields ps } ∧ C.tab ps
  os : s.os = C.os
  gens : AllBare s.gens

namespace Inv
variable {C : Cx} {K Y : HM} {s : Shared}

theorem ext (I : Inv C K Y s) {h' : Heap} (t : Nat) (hk : ∀ b o, s.heap.get? b = some o → h'.get? b = some o) : Inv C K Y { s with heap := h', toks := t } where
  k := fun a o e => hk _ _ (I.k a o e)
  y := fun a o e => let ⟨o', q, r⟩ := I.y a o e; ⟨o', hk _ _ q, r⟩
  dj := I.dj
  top := I.top
  pk := I.pk
  py := I.py
  tab := let ⟨ps, e, q⟩ := I.tab; ⟨ps, hk _ _ e, q⟩
  os := I.os
  gens := I.gens

theorem tok (I : Inv C K Y s) (t : Nat) : Inv C K Y { s with toks := t } := I.ext t fun _ _ e => e

theorem freshK (I : Inv C K Y s) {a : Addr} (ha : s.heap.get? a = none) : K a = none := by
  cases q : K a with
  | none => rfl
  | some o => have := I.k a o q; rw [ha] at this; cases this
theorem freshY (I : Inv C K Y s) {a : Addr} (ha : s.heap.get? a = none) : Y a = none := by
  cases q : Y a with
  | none => rfl
  | some o => obtain ⟨o', h, _⟩ := I.y a o q; rw [ha] at h; cases h
theorem freshP (I : Inv C K Y s) {a : Addr} (ha : s.heap.get? a = none) : C.P ≠ a := by
  obtain ⟨ps, e, _⟩ := I.tab
  intro q; rw [q, ha] at e; cases e
theorem none_of_size {h : Heap} {a : Addr} (ha : h.objs.size ≤ a) : h.get? a = none := by
  cases e : h.get? a with
  | none => rfl
  | some o' => exact absurd (Heap.lt_size e) (Nat.not_lt.mpr ha)

theorem allocK (I : Inv C K Y s) {h' : Heap} (t : Nat) {a : Addr} {o : Obj} (hk : ∀ b o, s.heap.get? b = some o → h'.get? b = some o) (ha : s.heap.get? a = none) (ho : h'.get? a = some o) :
    Inv C (K.set a o) Y { s with heap := h', toks := t } := by
  have J := I.ext t hk
  refine ⟨fun b o' e => ?_, J.y, fun b o' e => ?_, I.top.trans (HM.le_set (I.freshK ha)), ?_, J.py, J.tab, J.os, J.gens⟩
  · by_cases q : b = a
    · subst q; rw [HM.set_self] at e; cases e; exact ho
    · rw [HM.set_ne _ _ q] at e; exact J.k b o' e
  · by_cases q : b = a
    · subst q; rw [I.freshY ha] at e; cases e
    · rw [HM.set_ne _ _ q]; exact I.dj b o' e
  · rw [HM.set_ne _ _ (I.freshP ha)]; exact I.pk

theorem allocY (I : Inv C K Y s) {h' : Heap} (t : Nat) {a : Addr} {o : Obj} (hk : ∀ b o, s.heap.get? b = some o → h'.get? b = some o) (ha : s.heap.get? a = none) (ho : h'.get? a = some o) :
    Inv C K (Y.set a o) { s with heap := h', toks := t } := by
  have J := I.ext t hk
  refine ⟨J.k, fun b o' e => ?_, fun b o' e => ?_, I.top, J.pk, ?_, J.tab, J.os, J.gens⟩
  · by_cases q : b = a
    · subst q; rw [HM.set_self] at e; cases e; exact ⟨o, ho, SE.refl _⟩
    · rw [HM.set_ne _ _ q] at e; exact J.y b o' e
  · by_cases q : b = a
    · subst q; exact I.freshK ha
    · rw [HM.set_ne _ _ q] at e; exact I.dj b o' e
  · rw [HM.set_ne _ _ (I.freshP ha)]; exact I.py

theorem upd (I : Inv C K Y s) {h' : Heap} (t : Nat) {a : Addr} {o₀ o : Obj} (hy : Y a = some o₀) (hk : Heap.ExtBut a s.heap h') (ho : h'.get? a = some o) :
    Inv C K (Y.set a o) { s with heap := h', toks := t } := by
  have hp : C.P ≠ a := fun q => by have := I.py; rw [q, hy] at this; cases this
  refine ⟨fun b o' e => ?_, fun b o' e => ?_, fun b o' e => ?_, I.top, I.pk, ?_, ?_, I.os, I.gens⟩
  · refine hk b o' (fun q => ?_) (I.k b o' e)
    subst q; rw [I.dj b o₀ hy] at e; cases e
  · by_cases q : b = a
    · subst q; rw [HM.set_self] at e; cases e; exact ⟨o, ho, SE.refl _⟩
    · rw [HM.set_ne _ _ q] at e
      obtain ⟨o', x, r⟩ := I.y _ _ e
      exact ⟨o', hk _ _ q x, r⟩
  · by_cases q : b = a
    · subst q; exact I.dj _ o₀ hy
    · rw [HM.set_ne _ _ q] at e; exact I.dj b o' e
  · rw [HM.set_ne _ _ hp]; exact I.py
  · obtain ⟨ps, e, q⟩ := I.tab
    exact ⟨ps, hk _ _ hp e, q⟩

theorem less (I : Inv C K Y s) {Y' : HM} (h : HM.le Y' Y) : Inv C K Y' s where
  k := I.k
  y := fun a o e => I.y a o (h a o e)
  dj := fun a o e => I.dj a o (h a o e)
  top := I.top
  pk := I.pk
  py := by
    cases q : Y' C.P with
    | none => rfl
    | some o => have := h _ _ q; rw [I.py] at this; cases this
  tab := I.tab
  os := I.os
  gens := I.gens

theorem freeze (I : Inv C K Y s) {a : Addr} {o : Obj} (hy : Y a = some o) :
    ∃ o', SE o o' ∧ Inv C (K.set a o') (fun b => if b = a then none else Y b) s := by
  obtain ⟨o', ho, se⟩ := I.y a o hy
  have hp : C.P ≠ a := fun q => by have := I.py; rw [q, hy] at this; cases this
  refine ⟨o', se, fun b x e => ?_, fun b x e => ?_, fun b x e => ?_, I.top.trans (HM.le_set (I.dj a o hy)), ?_, ?_, I.tab, I.os, I.gens⟩
  · by_cases q : b = a
    · subst q; rw [HM.set_self] at e; cases e; exact ho
    · rw [HM.set_ne _ _ q] at e; exact I.k b x e
  · by_cases q : b = a
    · simp [q] at e
    · simp only [q, if_false] at e; exact I.y b x e
  · by_cases q : b = a
    · simp [q] at e
    · simp only [q, if_false] at e; rw [HM.set_ne _ _ q]; exact I.dj b x e
  · rw [HM.set_ne _ _ hp]; exact I.pk
  · simp only [hp, if_false]; exact I.py
end Inv

mutual
inductive Rep (K : HM) : Value → PyData → Prop
  | none : Rep K .none .none
  | bool (b) : Rep K (.bool b) (.bool b)
  | int (i t) : Rep K (.int i t) (.int i)
  | str (x t) : Rep K (.str x t) (.str x)
  | list {a o vs n xs} : K a = some o → o.cls = .type "list" → o.dict = Option.none → o.data = .seq vs n → RepAll K vs.toList xs → Rep K (.ref a) (.list xs)
  | tuple {a o vs n xs} : K a = some o → o.cls = .type "tuple" → o.data = .seq vs n → RepAll K vs.toList xs → Rep K (.ref a) (.tuple xs)
  | dict {a es n kvs} : K a = some ⟨.type "dict", Option.none, .dict es n, #[]⟩ → (a == sysModules) = false → RepKv K es.toList kvs → Rep K (.ref a) (.dict kvs)
inductive RepAll (K : HM) : List Value → List PyData → Prop
  | nil : RepAll K [] []
  | cons {v vs d ds} : Rep K v d → RepAll K vs ds → RepAll K (v :: vs) (d :: ds)
inductive RepKv (K : HM) : List DictEntry → List (PyData × PyData) → Prop
  | nil : RepKv K [] []
  | cons {e es i t d kvs} : e.key = .int i t → e.hash = hashInt i → Rep K e.val d → RepKv K es kvs → RepKv K (e :: es) ((.int i, d) :: kvs)
end

mutual
theorem Rep.mono {K K' : HM} (h : HM.le K K') : ∀ {v d}, Rep K v d → Rep K' v d
  | _, _, .none => .none
  | _, _, .bool b => .bool b
  | _, _, .int i t => .int i t
  | _, _, .str x t => .str x t
  | _, _, .list a b q c r => .list (h _ _ a) b q c (RepAll.mono h r)
  | _, _, .tuple a b c r => .tuple (h _ _ a) b c (RepAll.mono h r)
  | _, _, .dict a q r => .dict (h _ _ a) q (RepKv.mono h r)
theorem RepAll.mono {K K' : HM} (h : HM.le K K') : ∀ {vs ds}, RepAll K vs ds → RepAll K' vs ds
  | _, _, .nil => .nil
  | _, _, .cons a b => .cons (Rep.mono h a) (RepAll.mono h b)
theorem RepKv.mono {K K' : HM} (h : HM.le K K') : ∀ {es kvs}, RepKv K es kvs → RepKv K' es kvs
  | _, _, .nil => .nil
  | _, _, .cons a b c d => .cons a b (Rep.mono h c) (RepKv.mono h d)
end

end Sq
end

section
set_option autoImplicit false
open PySem PyProof.Rows
namespace Sq

structure AOk (n : Nat) (A : Around) : Prop where
  h : A.handled = none
  d : A.depth + n < 900
  u : A.units + 10 * n < 9000
theorem AOk.le {n m : Nat} {A : Around} (h : AOk n A) (hm : m ≤ n) : AOk m A := ⟨h.h, by have := h.d; omega, by have := h.u; omega⟩
theorem AOk.room {n : Nat} {A : Around} (h : AOk n A) : A.depth < recursionLimit := by have := h.d; unfold recursionLimit; omega
theorem AOk.units {n : Nat} {A : Around} (h : AOk n A) : A.units + 64 < cLine := by have := h.u; unfold cLine; omega
theorem AOk.deeper {n : Nat} {A : Around} (h : AOk (n + 1) A) (env : Env) : AOk n (A.deeper env) :=
  ⟨h.h, by show A.depth + 1 + n < 900; have := h.d; omega, by show A.units + 3 + 10 * n < 9000; have := h.u; omega⟩

inductive PV where
  | val (d : PyData)
  | own (ds : List PyData)
abbrev PEnv := List (Str × PV)

def VarAt (Y : HM) (env : Env) (x : Str) (v : Value) : Prop :=
  (env.kindOf x = some .local ∧ ∃ o es ep, Y env.locals = some o ∧ o.data = .dict es ep ∧ StrKeys es ∧ nsFind es x = some v) ∨
  (env.kindOf x = some .cell ∧ ∃ c o, env.cells.lookup x = some c ∧ Y c = some o ∧ o.data = .cell (some v))

theorem VarAt.mono {Y Y' : HM} (h : HM.le Y Y') {env : Env} {x : Str} {v : Value} : VarAt Y env x v → VarAt Y' env x v := by
  rintro (⟨k, o, es, ep, a, r⟩ | ⟨k, c, o, a, b, r⟩)
  · exact .inl ⟨k, o, es, ep, h _ _ a, r⟩
  · exact .inr ⟨k, c, o, a, h _ _ b, r⟩

theorem VarAt.uniq {Y : HM} {env : Env} {x : Str} {v v' : Value} : VarAt Y env x v → VarAt Y env x v' → v = v' := by
  rintro (⟨k, o, es, ep, a, b, c, d⟩ | ⟨k, c, o, a, b, d⟩) (⟨k', o', es', ep', a', b', c', d'⟩ | ⟨k', c', o', a', b', d'⟩)
  · rw [a] at a'; cases a'; rw [b] at b'; cases b'; rw [d] at d'; cases d'; rfl
  · rw [k] at k'; cases k'
  · rw [k] at k'; cases k'
  · rw [a] at a'; cases a'; rw [b] at b'; cases b'; rw [d] at d'; cases d'; rfl

theorem VarAt.load {C : Cx} {K Y : HM} {s : Shared} {env : Env} {x : Str} {v : Value} {A : Around} {E : Value → Shared → Prop} {Q : Value → Shared → Prop} (V : VarAt Y env x v) (I : Inv C K Y s) (hk : env.scope.kind = .function) (h : Q v s) :
    wpAny C.md A (loadName env x) Q E s := by
  rcases V with ⟨k, o, es, ep, a, b, c, d⟩ | ⟨k, c, o, a, b, d⟩
  · obtain ⟨o', ho', se⟩ := I.y _ _ a
    exact wpAny_loadName_local hk k ⟨o', es, ep, ho', se.dat.trans b, c, fun _ => rfl⟩ d h
  · obtain ⟨o', ho', se⟩ := I.y _ _ b
    exact wpAny_loadName_cell hk k a ⟨o', ho', se.dat.trans d⟩ h

def VarOk (K Y : HM) (env : Env) (x : Str) : PV → Prop
  | .val d => ∃ v, VarAt Y env x v ∧ Rep K v d
  | .own ds => ∃ a o vs n, VarAt Y env x (.ref a) ∧ Y a = some o ∧ o.cls = .type "list" ∧ (o.dict = none ∧ o.slots = #[]) ∧ o.data = .seq vs n ∧ RepAll K vs.toList ds

theorem VarOk.mono {K K' Y Y' : HM} (hk : HM.le K K') (hy : HM.le Y Y') {env : Env} {x : Str} {pv : PV} (h : VarOk K Y env x pv) : VarOk K' Y' env x pv := by
  cases pv with
  | val d => obtain ⟨v, a, b⟩ := h; exact ⟨v, a.mono hy, b.mono hk⟩
  | own ds => obtain ⟨a, o, vs, n, h1, h2, h3, h4, h5, h6⟩ := h; exact ⟨a, o, vs, n, h1.mono hy, hy _ _ h2, h3, h4, h5, h6.mono hk⟩

structure EnvRd (K Y : HM) (sc : Scope) (env : Env) (ρ : PEnv) : Prop where
  scp : env.scope = sc
  kind : sc.kind = .function
  gl : env.globals = mainGlobals
  bi : env.builtins = builtinsNs
  vars : ∀ x pv, ρ.lookup x = some pv → VarOk K Y env x pv

theorem EnvRd.mono {K K' Y Y' : HM} (hk : HM.le K K') (hy : HM.le Y Y') {sc : Scope} {env : Env} {ρ : PEnv} (R : EnvRd K Y sc env ρ) : EnvRd K' Y' sc env ρ :=
  ⟨R.scp, R.kind, R.gl, R.bi, fun x pv h => (R.vars x pv h).mono hk hy⟩
theorem EnvRd.monoK {K K' Y : HM} (hk : HM.le K K') {sc : Scope} {env : Env} {ρ : PEnv} (R : EnvRd K Y sc env ρ) : EnvRd K' Y sc env ρ := R.mono hk (HM.le.refl _)
theorem EnvRd.fk {K Y : HM} {sc : Scope} {env : Env} {ρ : PEnv} (R : EnvRd K Y sc env ρ) : env.scope.kind = .function := by rw [R.scp]; exact R.kind
theorem EnvRd.kindOf {K Y : HM} {sc : Scope} {env : Env} {ρ : PEnv} (R : EnvRd K Y sc env ρ) (x : Str) : env.kindOf x = sc.names.lookup x := by unfold Env.kindOf; rw [R.scp]

def Post (C : Cx) (K Y : HM) (d : PyData) (v : Value) (s' : Shared) : Prop := ∃ K', HM.le K K' ∧ Inv C K' Y s' ∧ Rep K' v d
theorem Post.mk {C : Cx} {K Y : HM} {d : PyData} {v : Value} {s' : Shared} (I : Inv C K Y s') (r : Rep K v d) : Post C K Y d v s' := ⟨K, HM.le.refl _, I, r⟩
theorem Post.up {C : Cx} {K K₁ Y : HM} {d : PyData} {v : Value} {s' : Shared} (h : HM.le K K₁) (p : Post C K₁ Y d v s') : Post C K Y d v s' :=
  let ⟨K', a, b, c⟩ := p; ⟨K', h.trans a, b, c⟩

def Gives (C : Cx) (n : Nat) (K Y : HM) (t : Sem Value) (d : PyData) : Prop :=
  ∀ (A : Around) (s : Shared) (E : Value → Shared → Prop), AOk n A → Inv C K Y s → wpAny C.md A t (Post C K Y d) E s

def Ev (C : Cx) (n : Nat) (sc : Scope) (ρ : PEnv) (e : Expr) (d : PyData) : Prop :=
  ∀ (A : Around) (K Y : HM) (env : Env) (s : Shared) (E : Value → Shared → Prop), AOk n A → EnvRd K Y sc env ρ → Inv C K Y s → wpAny C.md A (eval e env) (Post C K Y d) E s

def Tt (C : Cx) (n : Nat) (sc : Scope) (ρ : PEnv) (e : Expr) (b : Bool) : Prop :=
  ∀ (A : Around) (K Y : HM) (env : Env) (s : Shared) (E : Value → Shared → Prop), AOk n A → EnvRd K Y sc env ρ → Inv C K Y s →
    wpAny C.md A (isTrue e env (eval e env)) (fun r s' => r = b ∧ ∃ K', HM.le K K' ∧ Inv C K' Y s') E s

section
variable {C : Cx} {n : Nat} {sc : Scope} {ρ : PEnv} {A : Around} {K Y : HM} {env : Env} {s : Shared} {E : Value → Shared → Prop}

theorem Ev.use {e : Expr} {d : PyData} {Q : Value → Shared → Prop} (h : Ev C n sc ρ e d) (a : AOk n A) (R : EnvRd K Y sc env ρ) (I : Inv C K Y s)
    (k : ∀ v s' K', HM.le K K' → Inv C K' Y s' → Rep K' v d → EnvRd K' Y sc env ρ → Q v s') : wpAny C.md A (eval e env) Q E s :=
  wpAny_mono (h A K Y env s E a R I) (fun v s' ⟨K', l, i, r⟩ => k v s' K' l i r (R.monoK l)) fun _ _ x => x

theorem Ev.name {x : Str} {pos : Pos} {d : PyData} (h : ρ.lookup x = some (.val d)) (hd : (x == ("__debug__" : Str)) = false := by decide) : Ev C n sc ρ (.Name x pos) d := by
  intro A K Y env s E a R I
  obtain ⟨v, V, r⟩ := R.vars x _ h
  exact wpAny_Name (V.load I R.fk (.mk I r)) hd

theorem Ev.int {i : Int} {k : Nat} {pos : Pos} : Ev C n sc ρ (.Constant (.int i) k pos) (.int i) := by
  intro A K Y env s E a R I
  exact wpAny_Constant_int (.mk (I.tok _) (.int _ _))
theorem Ev.noneC {k : Nat} {pos : Pos} : Ev C n sc ρ (.Constant .none k pos) .none := by
  intro A K Y env s E a R I
  exact wpAny_pure (.mk I .none)
theorem Ev.boolC {b : Bool} {k : Nat} {pos : Pos} : Ev C n sc ρ (.Constant (.bool b) k pos) (.bool b) := by
  intro A K Y env s E a R I
  exact wpAny_pure (.mk I (.bool _))
theorem Ev.strC {x : Str} {k : Nat} {pos : Pos} : Ev C n sc ρ (.Constant (.str x) k pos) (.str x) := by
  intro A K Y env s E a R I
  exact Calls.Constant_str (.mk (I.tok _) (.str _ _))

theorem Ev.up {m : Nat} {e : Expr} {d : PyData} (h : Ev C n sc ρ e d) (hm : n ≤ m) : Ev C m sc ρ e d := fun A K Y env s E a => h A K Y env s E (a.le hm)

def Bin (C : Cx) (n : Nat) (op : Value → Value → Sem Value) (d e r : PyData) : Prop :=
  ∀ (K Y : HM) (v u : Value), Rep K v d → Rep K u e → Gives C n K Y (op v u) r

theorem Ev.bin {l r : Expr} {op : Operator} {pos : Pos} {d e f : PyData} (hl : Ev C n sc ρ l d) (hr : Ev C n sc ρ r e) (h : Bin C n (binaryOp op) d e f) : Ev C n sc ρ (.BinOp l op r pos) f := by
  intro A K Y env s E a R I
  refine wpAny_BinOp (hl.use a R I fun v s₁ K₁ l₁ I₁ r₁ R₁ => hr.use a R₁ I₁ fun u s₂ K₂ l₂ I₂ r₂ R₂ => ?_)
  exact wpAny_mono (h K₂ Y v u (r₁.mono l₂) r₂ A s₂ E a I₂) (fun _ _ p => (p.up l₂).up l₁) fun _ _ x => x

theorem Ev.cmp {l r : Expr} {op : CmpOp} {pos : Pos} {d e f : PyData} (hl : Ev C n sc ρ l d) (hr : Ev C n sc ρ r e) (h : Bin C n (compareOp op) d e f) (hm : behindInMarks op r = false := by with_unfolding_all rfl) :
    Ev C n sc ρ (.Compare l [op] [r] pos) f := by
  intro A K Y env s E a R I
  refine wpAny_Compare1 (hl.use a R I fun v s₁ K₁ l₁ I₁ r₁ R₁ => hr.use a R₁ I₁ fun u s₂ K₂ l₂ I₂ r₂ R₂ => ?_) hm
  exact wpAny_mono (h K₂ Y v u (r₁.mono l₂) r₂ A s₂ E a I₂) (fun _ _ p => (p.up l₂).up l₁) fun _ _ x => x

theorem Tt.cmp {l r : Expr} {op : CmpOp} {pos : Pos} {d e : PyData} {b : Bool} (hl : Ev C n sc ρ l d) (hr : Ev C n sc ρ r e) (h : Bin C n (compareOp op) d e (.bool b)) (hm : behindInMarks op r = false := by with_unfolding_all rfl) :
    Tt C n sc ρ (.Compare l [op] [r] pos) b := by
  intro A K Y env s E a R I
  refine wpAny_isTrue_Compare1 (hl.use a R I fun v s₁ K₁ l₁ I₁ r₁ R₁ => hr.use a R₁ I₁ fun u s₂ K₂ l₂ I₂ r₂ R₂ => ?_) hm
  refine wpAny_mono (h K₂ Y v u (r₁.mono l₂) r₂ A s₂ E a I₂) (fun c s₃ p => ?_) fun _ _ x => x
  obtain ⟨K', l', I', r'⟩ := p
  cases r'
  exact wpAny_truthy_bool ⟨rfl, K', (l₁.trans l₂).trans l', I'⟩

theorem Tt.not {e : Expr} {pos : Pos} {b : Bool} (h : Tt C n sc ρ e b) : Tt C n sc ρ (.UnaryOp .Not e pos) (!b) := by
  intro A K Y env s E a R I
  show wpAny C.md A (do return !(← isTrue e env (eval e env))) _ E s
  exact wpAny_bind (wpAny_mono (h A K Y env s E a R I) (fun r s' p => wpAny_pure ⟨by rw [p.1], p.2⟩) fun _ _ x => x)

end
end Sq
end

section
set_option autoImplicit false
open PySem PyProof.Rows
namespace Sq

section
variable {C : Cx} {n : Nat} {a b : Int}
theorem Bin.add : Bin C n (binaryOp .Add) (.int a) (.int b) (.int (a + b)) := by
  intro K Y v u r₁ r₂ A s E ok I; cases r₁; cases r₂; exact wpAny_add_int (.mk (I.tok _) (.int _ _))
theorem Bin.sub : Bin C n (binaryOp .Sub) (.int a) (.int b) (.int (a - b)) := by
  intro K Y v u r₁ r₂ A s E ok I; cases r₁; cases r₂; exact sub_int' (.mk (I.tok _) (.int _ _))
theorem Bin.mul (h : IntMulOk a b) : Bin C n (binaryOp .Mult) (.int a) (.int b) (.int (a * b)) := by
  intro K Y v u r₁ r₂ A s E ok I; cases r₁; cases r₂; exact mul_int (.mk (I.tok _) (.int _ _)) h
theorem Bin.fdiv (h : b ≠ 0) (hp : Builtin.divisionGoesByPylong a b = false) : Bin C n (binaryOp .FloorDiv) (.int a) (.int b) (.int (a.fdiv b)) := by
  intro K Y v u r₁ r₂ A s E ok I; cases r₁; cases r₂; exact floordiv_int h (.mk (I.tok _) (.int _ _)) (.inl hp)
theorem Bin.fmod (h : b ≠ 0) : Bin C n (binaryOp .Mod) (.int a) (.int b) (.int (a.fmod b)) := by
  intro K Y v u r₁ r₂ A s E ok I; cases r₁; cases r₂; exact mod_int' h (.mk (I.tok _) (.int _ _))
theorem Bin.pow (h : 0 ≤ b) (hs : (Builtin.Int.intBits a : Int) * b ≤ 2 ^ 27) : Bin C n (binaryOp .Pow) (.int a) (.int b) (.int (a ^ b.toNat)) := by
  intro K Y v u r₁ r₂ A s E ok I; cases r₁; cases r₂; exact pow_int h hs (.mk (I.tok _) (.int _ _))
theorem Bin.shr (h : 0 ≤ b) : Bin C n (binaryOp .RShift) (.int a) (.int b) (.int (a.fdiv (2 ^ b.toNat))) := by
  intro K Y v u r₁ r₂ A s E ok I; cases r₁; cases r₂; exact rshift_int h (.mk (I.tok _) (.int _ _))
theorem Bin.shl (h : 0 ≤ b) (hs : (Builtin.Int.intBits a : Int) + b ≤ 2 ^ 27) : Bin C n (binaryOp .LShift) (.int a) (.int b) (.int (a * 2 ^ b.toNat)) := by
  intro K Y v u r₁ r₂ A s E ok I; cases r₁; cases r₂; exact lshift_int h hs (.mk (I.tok _) (.int _ _))
theorem Bin.band : Bin C n (binaryOp .BitAnd) (.int a) (.int b) (.int (Builtin.bitAnd a b)) := by
  intro K Y v u r₁ r₂ A s E ok I; cases r₁; cases r₂; exact and_int (.mk (I.tok _) (.int _ _))
theorem Bin.lt : Bin C n (compareOp .Lt) (.int a) (.int b) (.bool (decide (a < b))) := by
  intro K Y v u r₁ r₂ A s E ok I; cases r₁; cases r₂; exact PyProof.Rows.lt_int (.mk I (.bool _))
theorem Bin.gt : Bin C n (compareOp .Gt) (.int a) (.int b) (.bool (decide (b < a))) := by
  intro K Y v u r₁ r₂ A s E ok I; cases r₁; cases r₂; exact PyProof.Rows.gt_int (.mk I (.bool _))
theorem Bin.eqI : Bin C n (compareOp .Eq) (.int a) (.int b) (.bool (a == b)) := by
  intro K Y v u r₁ r₂ A s E ok I; cases r₁; cases r₂; exact PyProof.Rows.eq_int (.mk I (.bool _))
theorem Bin.neI : Bin C n (compareOp .NotEq) (.int a) (.int b) (.bool (a != b)) := by
  intro K Y v u r₁ r₂ A s E ok I; cases r₁; cases r₂; exact PyProof.Rows.ne_int (.mk I (.bool _))
end

section
variable {K : HM}
theorem RepAll.length {vs : List Value} {ds : List PyData} (h : RepAll K vs ds) : vs.length = ds.length := by
  induction vs generalizing ds with
  | nil => cases h; rfl
  | cons v vs ih => cases h with | cons _ r => rw [List.length_cons, List.length_cons, ih r]
theorem RepAll.append {vs ws : List Value} {ds es : List PyData} (h : RepAll K vs ds) (k : RepAll K ws es) : RepAll K (vs ++ ws) (ds ++ es) := by
  induction vs generalizing ds with
  | nil => cases h; exact k
  | cons v vs ih => cases h with | cons a r => exact .cons a (ih r)
theorem RepAll.get {vs : List Value} {ds : List PyData} (h : RepAll K vs ds) {i : Nat} {d : PyData} (hd : ds[i]? = some d) : ∃ v, vs[i]? = some v ∧ Rep K v d := by
  induction vs generalizing ds i with
  | nil => cases h; simp at hd
  | cons v vs ih =>
    cases h with
    | cons a r =>
      cases i with
      | zero => simp at hd; subst hd; exact ⟨v, rfl, a⟩
      | succ i => simp at hd; simpa using ih r hd
theorem RepAll.take {vs : List Value} {ds : List PyData} (h : RepAll K vs ds) (i : Nat) : RepAll K (vs.take i) (ds.take i) := by
  induction vs generalizing ds i with
  | nil => cases h; simp; exact .nil
  | cons v vs ih =>
    cases h with
    | cons a r =>
      cases i with
      | zero => exact .nil
      | succ i => exact .cons a (ih r i)
theorem RepAll.drop {vs : List Value} {ds : List PyData} (h : RepAll K vs ds) (i : Nat) : RepAll K (vs.drop i) (ds.drop i) := by
  induction vs generalizing ds i with
  | nil => cases h; simp; exact .nil
  | cons v vs ih =>
    cases h with
    | cons a r =>
      cases i with
      | zero => exact .cons a r
      | succ i => exact ih r i
theorem RepAll.set {vs : List Value} {ds : List PyData} (h : RepAll K vs ds) {i : Nat} {v : Value} {d : PyData} (r : Rep K v d) : RepAll K (vs.set i v) (ds.set i d) := by
  induction vs generalizing ds i with
  | nil => cases h; exact .nil
  | cons w vs ih =>
    cases h with
    | cons a q =>
      cases i with
      | zero => exact .cons r q
      | succ i => exact .cons a (ih q)
theorem RepAll.one {v : Value} {d : PyData} (h : Rep K v d) : RepAll K [v] [d] := .cons h .nil

theorem Rep.listInv {v : Value} {ds : List PyData} (r : Rep K v (.list ds)) : ∃ a o vs n, v = .ref a ∧ K a = some o ∧ o.cls = .type "list" ∧ o.data = .seq vs n ∧ RepAll K vs.toList ds := by
  cases r with | list a b _ c d => exact ⟨_, _, _, _, rfl, a, b, c, d⟩
theorem Rep.tupleInv {v : Value} {ds : List PyData} (r : Rep K v (.tuple ds)) : ∃ a o vs n, v = .ref a ∧ K a = some o ∧ o.cls = .type "tuple" ∧ o.data = .seq vs n ∧ RepAll K vs.toList ds := by
  cases r with | tuple a b c d => exact ⟨_, _, _, _, rfl, a, b, c, d⟩
end

theorem plain_eq {o : Obj} {vs : Array Value} {m : Nat} (hc : o.cls = .type "list") (hdd : o.dict = none ∧ o.slots = #[]) (hd : o.data = .seq vs m) : o = { cls := .type "list", data := .seq vs m } := by
  obtain ⟨c, d, dt, sl⟩ := o; simp only at hc hdd hd; rw [hc, hdd.1, hdd.2, hd]

def NewL (C : Cx) (K Y : HM) (ds : List PyData) (v : Value) (s' : Shared) : Prop :=
  ∃ K' a o vs m, HM.le K K' ∧ v = .ref a ∧ Y a = none ∧ Inv C K' (Y.set a o) s' ∧ o.cls = .type "list" ∧ (o.dict = none ∧ o.slots = #[]) ∧ o.data = .seq vs m ∧ RepAll K' vs.toList ds

theorem NewL.up {C : Cx} {K K₁ Y : HM} {ds : List PyData} {v : Value} {s' : Shared} (h : HM.le K K₁) (p : NewL C K₁ Y ds v s') : NewL C K Y ds v s' :=
  let ⟨K', a, o, vs, m, l, r⟩ := p; ⟨K', a, o, vs, m, h.trans l, r⟩

theorem NewL.post {C : Cx} {K Y : HM} {ds : List PyData} {v : Value} {s' : Shared} (p : NewL C K Y ds v s') : Post C K Y (.list ds) v s' := by
  obtain ⟨K', a, o, vs, m, l, rfl, hn, I, hc, hdd, hd, r⟩ := p
  obtain ⟨o', se, J⟩ := I.freeze (HM.set_self ..)
  have hle : HM.le K' (K'.set a o') := HM.le_set (I.dj a o (HM.set_self ..))
  refine ⟨K'.set a o', l.trans hle, J.less fun b x e => ?_, .list (HM.set_self ..) (se.cls.trans hc) (se.dict.trans hdd.1) (se.dat.trans hd) (r.mono hle)⟩
  have q : b ≠ a := fun q => by subst q; rw [hn] at e; cases e
  simp only [q, if_false, HM.set_ne _ _ q]; exact e

theorem NewL.push {C : Cx} {K Y : HM} {s : Shared} {ds : List PyData} {vs : Array Value} {m : Nat} (I : Inv C K Y s) (t : Nat) (r : RepAll K vs.toList ds) :
    NewL C K Y ds (.ref s.heap.objs.size) { s with heap := s.heap.push { cls := .type "list", data := .seq vs m }, toks := t } :=
  have hf := Inv.none_of_size (Nat.le_refl s.heap.objs.size)
  ⟨K, _, _, vs, m, HM.le.refl _, rfl, I.freshY hf, I.allocY t (fun _ _ e => Heap.get?_push_of_some _ e) hf (Heap.get?_push_size _ rfl), rfl, ⟨rfl, rfl⟩, rfl, r⟩
theorem NewL.at {C : Cx} {K Y : HM} {s : Shared} {ds : List PyData} {o : Obj} {vs : Array Value} {m : Nat} {a : Addr} {h' : Heap} (I : Inv C K Y s) (t : Nat) (hk : ∀ b o, s.heap.get? b = some o → h'.get? b = some o)
    (ha : s.heap.get? a = none) (ho : h'.get? a = some o) (hc : o.cls = .type "list") (hdd : (o.dict = none ∧ o.slots = #[])) (hd : o.data = .seq vs m) (r : RepAll K vs.toList ds) :
    NewL C K Y ds (.ref a) { s with heap := h', toks := t } :=
  ⟨K, a, o, vs, m, HM.le.refl _, rfl, I.freshY ha, I.allocY t hk ha ho, hc, hdd, hd, r⟩
theorem Post.tuple {C : Cx} {K Y : HM} {s : Shared} {ds : List PyData} {vs : Array Value} {m : Nat} (I : Inv C K Y s) (t : Nat) (r : RepAll K vs.toList ds) :
    Post C K Y (.tuple ds) (.ref s.heap.objs.size) { s with heap := s.heap.push { cls := .type "tuple", data := .seq vs m }, toks := t } :=
  have hf := Inv.none_of_size (Nat.le_refl s.heap.objs.size)
  have hle : HM.le K (K.set s.heap.objs.size { cls := .type "tuple", data := .seq vs m }) := HM.le_set (I.freshK hf)
  ⟨_, hle, I.allocK t (fun _ _ e => Heap.get?_push_of_some _ e) hf (Heap.get?_push_size _ rfl), .tuple (HM.set_self ..) rfl rfl (r.mono hle)⟩

def EvN (C : Cx) (n : Nat) (sc : Scope) (ρ : PEnv) (e : Expr) (ds : List PyData) : Prop :=
  ∀ (A : Around) (K Y : HM) (env : Env) (s : Shared) (E : Value → Shared → Prop), AOk n A → EnvRd K Y sc env ρ → Inv C K Y s → wpAny C.md A (eval e env) (NewL C K Y ds) E s
theorem EvN.ev {C : Cx} {n : Nat} {sc : Scope} {ρ : PEnv} {e : Expr} {ds : List PyData} (h : EvN C n sc ρ e ds) : Ev C n sc ρ e (.list ds) :=
  fun A K Y env s E a R I => wpAny_mono (h A K Y env s E a R I) (fun _ _ p => p.post) fun _ _ x => x

inductive EvL (C : Cx) (n : Nat) (sc : Scope) (ρ : PEnv) : List Expr → List PyData → Prop
  | nil : EvL C n sc ρ [] []
  | cons {e es d ds} : Ev C n sc ρ e d → (∀ x p, e ≠ .Starred x p) → EvL C n sc ρ es ds → EvL C n sc ρ (e :: es) (d :: ds)

theorem starEach_plain {e : Expr} {es : List Expr} {env : Env} (h : ∀ x p, e ≠ .Starred x p) : starEach (e :: es) env = (false, eval e env) :: starEach es env := by
  cases e <;> first | rfl | exact absurd rfl (h _ _)

section
variable {C : Cx} {n : Nat} {sc : Scope} {ρ : PEnv}
theorem EvL.spliced {es : List Expr} {ds : List PyData} (h : EvL C n sc ρ es ds) (pos : Pos) : ∀ {A : Around} {K Y : HM} {env : Env} {s : Shared} {E : Value → Shared → Prop} {Q : List Value → Shared → Prop}, AOk n A → EnvRd K Y sc env ρ → Inv C K Y s →
    (∀ vs s' K', HM.le K K' → Inv C K' Y s' → RepAll K' vs ds → Q vs s') → wpAny C.md A (spliced (backTo pos (starEach es env))) Q E s := by
  induction h with
  | nil => intro A K Y env s E Q a R I k; exact Calls.spliced_nil (k [] s K (HM.le.refl _) I .nil)
  | cons h hs _ ih =>
    intro A K Y env s E Q a R I k
    rw [starEach_plain hs]
    show wpAny C.md A (PySem.spliced ((false, _) :: backTo pos (starEach _ env))) Q E s
    refine Calls.spliced_cons (h.use a R I fun v s₁ K₁ l₁ I₁ r₁ R₁ => ih a R₁ I₁ fun vs s₂ K₂ l₂ I₂ r₂ => k (v :: vs) s₂ K₂ (l₁.trans l₂) I₂ (.cons (r₁.mono l₂) r₂))

theorem Ev.tuple {es : List Expr} {ds : List PyData} {k : Nat} {pos : Pos} (h : EvL C n sc ρ es ds) (hs : ds.length ≤ sizeLine := by first | decide | (simp only [List.length_cons, List.length_nil]; decide)) : Ev C n sc ρ (.Tuple es k pos) (.tuple ds) := by
  intro A K Y env s E a R I
  show wpAny C.md A (do standAt pos; newTuple (← spliced (backTo pos (starEach es env)))) _ E s
  refine wpAny_bind (wpAny_standAt (wpAny_bind (h.spliced pos a R I fun vs s' K' l I' r => ?_)))
  refine wpAny_newObj_type ((Post.tuple I' s'.toks (by simpa using r)).up l) ?_
  show vs.toArray.size ≤ sizeLine
  rw [List.size_toArray, r.length]; exact hs
theorem EvN.list {es : List Expr} {ds : List PyData} {pos : Pos} (h : EvL C n sc ρ es ds) (hs : ds.length ≤ sizeLine := by first | decide | (simp only [List.length_cons, List.length_nil]; decide)) : EvN C n sc ρ (.List es pos) ds := by
  intro A K Y env s E a R I
  show wpAny C.md A (do standAt pos; newList (← spliced (backTo pos (starEach es env)))) _ E s
  refine wpAny_bind (wpAny_standAt (wpAny_bind (h.spliced pos a R I fun vs s' K' l I' r => ?_)))
  refine wpAny_newObj_type ((NewL.push I' s'.toks (by simpa using r)).up l) ?_
  show vs.toArray.size ≤ sizeLine
  rw [List.size_toArray, r.length]; exact hs
end
end Sq
end

section
set_option autoImplicit false
open PySem PyProof.Rows
namespace Sq
section
variable {C : Cx} {n : Nat} {sc : Scope} {ρ : PEnv}

theorem Rep.isList {K Y : HM} {s : Shared} {v : Value} {ds : List PyData} (r : Rep K v (.list ds)) (I : Inv C K Y s) : ∃ a vs, v = .ref a ∧ s.heap.IsList a vs ∧ RepAll K vs.toList ds := by
  obtain ⟨a, o, vs, m, rfl, h, hc, hd, q⟩ := r.listInv
  exact ⟨a, vs, rfl, ⟨o, I.k _ _ h, hc, m, hd⟩, q⟩
theorem Rep.isTup {K Y : HM} {s : Shared} {v : Value} {ds : List PyData} (r : Rep K v (.tuple ds)) (I : Inv C K Y s) : ∃ a vs, v = .ref a ∧ IsTup s.heap a vs ∧ RepAll K vs.toList ds := by
  obtain ⟨a, o, vs, m, rfl, h, hc, hd, q⟩ := r.tupleInv
  exact ⟨a, vs, rfl, ⟨o, I.k _ _ h, hc, m, hd⟩, q⟩

def NoSlice (e : Expr) : Prop := ∀ o i, subscripted e false o i = operate [o, i] (getItem o i)

theorem Ev.sub {value slice : Expr} {pos : Pos} {d e r : PyData} {T id : String} (hv : Ev C n sc ρ value d) (hs : Ev C n sc ρ slice e) (ns : NoSlice slice)
    (hT : ∀ (K Y : HM) (v : Value) (s : Shared), Rep K v d → Inv C K Y s → s.TypeIs v T) (hl : typeLookup (.type T) "__getitem__" = pure (some (.builtin id)))
    (h : Bin C n getItem d e r) : Ev C n sc ρ (.Subscript value slice pos) r := by
  intro A K Y env s E a R I
  refine Subscript_ (hv.use a R I fun v s₁ K₁ l₁ I₁ r₁ R₁ => hs.use a R₁ I₁ fun u s₂ K₂ l₂ I₂ r₂ R₂ => ?_)
  exact tail_any (hT K₂ Y v s₂ (r₁.mono l₂) I₂) hl (wpAny_mono (h K₂ Y v u (r₁.mono l₂) r₂ A s₂ E a I₂) (fun _ _ p => (p.up l₂).up l₁) fun _ _ x => x) (ns _ _)

theorem list_type (K Y : HM) (v : Value) (s : Shared) {ds : List PyData} (r : Rep K v (.list ds)) (I : Inv C K Y s) : s.TypeIs v "list" := by
  obtain ⟨a, vs, rfl, h, _⟩ := r.isList I; exact h.typeIs
theorem tuple_type (K Y : HM) (v : Value) (s : Shared) {ds : List PyData} (r : Rep K v (.tuple ds)) (I : Inv C K Y s) : s.TypeIs v "tuple" := by
  obtain ⟨a, vs, rfl, h, _⟩ := r.isTup I; exact h.typeIs

theorem Bin.itemL {ds : List PyData} {i : Int} {d : PyData} (h0 : 0 ≤ i) (hb : i < 2 ^ 63) (hd : ds[i.toNat]? = some d) : Bin C n getItem (.list ds) (.int i) d := by
  intro K Y v u r₁ r₂ A s E ok I
  cases r₂
  obtain ⟨a, vs, rfl, hl, q⟩ := r₁.isList I
  obtain ⟨x, hx, rx⟩ := q.get hd
  exact wpAny_getItem_list hl h0 hb (by simpa using hx) (.mk I rx)
theorem Bin.itemLneg {ds : List PyData} {i : Int} {d : PyData} (h0 : i < 0) (hb : -(2 ^ 63) ≤ i) (h1 : -(ds.length : Int) ≤ i) (hd : ds[(i + ds.length).toNat]? = some d) : Bin C n getItem (.list ds) (.int i) d := by
  intro K Y v u r₁ r₂ A s E ok I
  cases r₂
  obtain ⟨a, vs, rfl, hl, q⟩ := r₁.isList I
  obtain ⟨x, hx, rx⟩ := q.get hd
  have hsz : vs.size = ds.length := by have := q.length; simpa using this
  exact wpAny_getItem_list_neg hl h0 (by rw [hsz]; exact h1) hb (by rw [hsz]; simpa using hx) (.mk I rx)
theorem Bin.itemT {ds : List PyData} {i : Int} {d : PyData} (h0 : 0 ≤ i) (hb : i < 2 ^ 63) (hd : ds[i.toNat]? = some d) : Bin C n getItem (.tuple ds) (.int i) d := by
  intro K Y v u r₁ r₂ A s E ok I
  cases r₂
  obtain ⟨a, vs, rfl, hl, q⟩ := r₁.isTup I
  obtain ⟨x, hx, rx⟩ := q.get hd
  have hx' : vs[i.toNat]? = some x := by simpa using hx
  have hlt : i.toNat < vs.size := (Array.getElem?_eq_some_iff.mp hx').1
  refine PyProof.Rows.getItem_tuple hl (by omega) hb (j := i.toNat) ?_ hx' (.mk I rx)
  unfold seqIndex?
  have : ¬ i < 0 := by omega
  simp only [this, if_false]
  rw [if_pos (by simp only [Bool.and_eq_true, decide_eq_true_eq]; omega)]

theorem Ev.itemL {value slice : Expr} {pos : Pos} {ds : List PyData} {i : Int} {d : PyData} (hv : Ev C n sc ρ value (.list ds)) (hs : Ev C n sc ρ slice (.int i)) (h0 : 0 ≤ i) (hb : i < 2 ^ 63) (hd : ds[i.toNat]? = some d)
    (ns : NoSlice slice := by intro _ _; rfl) : Ev C n sc ρ (.Subscript value slice pos) d := hv.sub hs ns (fun K Y v s => list_type K Y v s) slot_list_getitem.lookup (Bin.itemL h0 hb hd)
theorem Ev.itemT {value slice : Expr} {pos : Pos} {ds : List PyData} {i : Int} {d : PyData} (hv : Ev C n sc ρ value (.tuple ds)) (hs : Ev C n sc ρ slice (.int i)) (h0 : 0 ≤ i) (hb : i < 2 ^ 63) (hd : ds[i.toNat]? = some d)
    (ns : NoSlice slice := by intro _ _; rfl) : Ev C n sc ρ (.Subscript value slice pos) d := hv.sub hs ns (fun K Y v s => tuple_type K Y v s) slot_tuple_getitem.lookup (Bin.itemT h0 hb hd)

theorem Ev.itemOwn {x : Str} {px : Pos} {slice : Expr} {pos : Pos} {ds : List PyData} {i : Int} {d : PyData} (hx : ρ.lookup x = some (.own ds)) (hs : Ev C n sc ρ slice (.int i)) (h0 : 0 ≤ i) (hb : i < 2 ^ 63) (hd : ds[i.toNat]? = some d)
    (ns : NoSlice slice := by intro _ _; rfl) (hdb : (x == ("__debug__" : Str)) = false := by decide) : Ev C n sc ρ (.Subscript (.Name x px) slice pos) d := by
  intro A K Y env s E a R I
  obtain ⟨l, o, vs, m, V, hy, hc, hdd, hda, q⟩ := R.vars x _ hx
  refine Subscript_ (wpAny_Name (V.load I R.fk (hs.use a R I fun u s₂ K₂ l₂ I₂ r₂ R₂ => ?_)) hdb)
  cases r₂
  obtain ⟨o', ho', se⟩ := I₂.y _ _ hy
  obtain ⟨x', hx', rx⟩ := q.get hd
  have hl : s₂.heap.IsList l vs := ⟨o', ho', se.cls.trans hc, m, se.dat.trans hda⟩
  exact tail_any hl.typeIs slot_list_getitem.lookup (wpAny_getItem_list hl h0 hb (by simpa using hx') ⟨K₂, l₂, I₂, rx.mono l₂⟩) (ns _ _)
theorem Ev.itemOwnLast {x : Str} {px : Pos} {slice : Expr} {pos : Pos} {ds : List PyData} {d : PyData} (hx : ρ.lookup x = some (.own (ds ++ [d]))) (hs : Ev C n sc ρ slice (.int (-1)))
    (ns : NoSlice slice := by intro _ _; rfl) (hdb : (x == ("__debug__" : Str)) = false := by decide) : Ev C n sc ρ (.Subscript (.Name x px) slice pos) d := by
  intro A K Y env s E a R I
  obtain ⟨l, o, vs, m, V, hy, hc, hdd, hda, q⟩ := R.vars x _ hx
  refine Subscript_ (wpAny_Name (V.load I R.fk (hs.use a R I fun u s₂ K₂ l₂ I₂ r₂ R₂ => ?_)) hdb)
  cases r₂
  obtain ⟨o', ho', se⟩ := I₂.y _ _ hy
  obtain ⟨x', hx', rx⟩ := q.get (i := ds.length) (d := d) (by simp)
  have hl : s₂.heap.IsList l vs := ⟨o', ho', se.cls.trans hc, m, se.dat.trans hda⟩
  have hsz : vs.size = ds.length + 1 := by have := q.length; simpa using this
  exact tail_any hl.typeIs slot_list_getitem.lookup (wpAny_getItem_list_neg hl (by decide) (by rw [hsz]; omega) (by decide) (by rw [hsz, show ((-1 : Int) + ((ds.length + 1 : Nat) : Int)).toNat = ds.length by omega]; simpa using hx') ⟨K₂, l₂, I₂, rx.mono l₂⟩) (ns _ _)

inductive EvO (C : Cx) (n : Nat) (sc : Scope) (ρ : PEnv) : Option Expr → Option Int → Prop
  | none : EvO C n sc ρ Option.none Option.none
  | some {e i} : Ev C n sc ρ e (.int i) → EvO C n sc ρ (Option.some e) (Option.some i)

theorem EvO.use {e : Option Expr} {i : Option Int} {A : Around} {K Y : HM} {env : Env} {s : Shared} {E : Value → Shared → Prop} {Q : Value → Shared → Prop} (h : EvO C n sc ρ e i) (a : AOk n A) (R : EnvRd K Y sc env ρ) (I : Inv C K Y s)
    (k : ∀ v s' K', HM.le K K' → Inv C K' Y s' → IsPart v i → EnvRd K' Y sc env ρ → Q v s') : wpAny C.md A (evalPart e env) Q E s := by
  cases h with
  | none => exact wpAny_pure (k _ _ K (HM.le.refl _) I .none R)
  | some h => exact h.use a R I fun v s' K' l I' r R' => by cases r; exact k _ _ K' l I' (.int _ _) R'

def sliceD {α : Type} (xs : List α) (lo hi : Option Int) : List α :=
  let b := sliceBounds lo hi none xs.length
  (xs.take b.2.1.toNat).drop b.1.toNat

theorem slice_eq {α : Type} (xs : List α) (a b : Nat) : (sliceRange (a : Int) (b : Int) 1).filterMap (fun i => xs[i]?) = (xs.take b).drop a := by
  unfold sliceRange
  by_cases h : (a : Int) < (b : Int)
  · simp only [show (1 : Int) > 0 from by decide, if_true, h]
    have e : ((b : Int) - a + 1 - 1) / 1 = ((b - a : Nat) : Int) := by omega
    have hn : (((b : Int) - a + 1 - 1) / 1).toNat = b - a := by omega
    rw [hn]
    generalize hm : b - a = m
    have hb : b = a + m := by omega
    subst hb
    clear h e hn hm
    induction m with
    | zero => simp
    | succ m ih =>
      rw [List.range_succ, List.map_append, List.filterMap_append, ih]
      simp only [List.map_cons, List.map_nil, List.filterMap_cons, List.filterMap_nil]
      have e2 : ((a : Int) + 1 * (m : Int)).toNat = a + m := by omega
      rw [e2]
      cases hx : xs[a + m]? with
      | none =>
        have := List.getElem?_eq_none_iff.mp hx
        simp only [List.append_nil]
        rw [List.take_of_length_le (by omega : xs.length ≤ a + (m + 1)), List.take_of_length_le this]
      | some x =>
        have hlt := (List.getElem?_eq_some_iff.mp hx).1
        rw [show a + (m + 1) = (a + m) + 1 by omega, List.take_add_one, hx]
        simp only [Option.toList_some]
        rw [List.drop_append_of_le_length (by rw [List.length_take]; omega)]
  · simp only [show (1 : Int) > 0 from by decide, if_true, h, if_false]
    simp only [Int.toNat_zero, List.range_zero, List.map_nil, List.filterMap_nil]
    rw [List.drop_of_length_le (by rw [List.length_take]; omega)]

theorem sliceD_pick {vs : Array Value} {lo hi : Option Int} : (slicePick vs lo hi none).toList = sliceD vs.toList lo hi := by
  unfold slicePick sliceD
  have hb : ∀ m : Nat, ∃ x y : Nat, sliceBounds lo hi none m = ((x : Int), (y : Int), 1) := by
    intro m
    refine ⟨(sliceBounds lo hi none m).1.toNat, (sliceBounds lo hi none m).2.1.toNat, ?_⟩
    simp only [sliceBounds, Option.getD_none, show (1 : Int) > 0 from by decide, if_true]
    refine Prod.ext ?_ (Prod.ext ?_ rfl)
    · cases lo with
      | none => rfl
      | some i => dsimp only; omega
    · cases hi with
      | none => dsimp only; omega
      | some i => dsimp only; omega
  obtain ⟨x, y, e⟩ := hb vs.size
  rw [e]
  have e' : sliceBounds lo hi none vs.toList.length = ((x : Int), (y : Int), 1) := by rw [Array.length_toList, e]
  simp only [e']
  have := slice_eq vs.toList x y
  simpa using this

theorem RepAll.slice {K : HM} {vs : List Value} {ds : List PyData} (h : RepAll K vs ds) (lo hi : Option Int) : RepAll K (sliceD vs lo hi) (sliceD ds lo hi) := by
  unfold sliceD; rw [h.length]; exact (h.take _).drop _

theorem EvN.slice {value : Expr} {lo hi : Option Expr} {i j : Option Int} {pos p : Pos} {ds : List PyData} (hv : Ev C n sc ρ value (.list ds)) (hl : EvO C n sc ρ lo i) (hh : EvO C n sc ρ hi j) (hsz : ds.length ≤ sizeLine) :
    EvN C n sc ρ (.Subscript value (.Slice lo hi none p) pos) (sliceD ds i j) := by
  intro A K Y env s E a R I
  refine Subscript_ (hv.use a R I fun v s₁ K₁ l₁ I₁ r₁ R₁ => wpAny_Slice (hl.use a R₁ I₁ fun x s₂ K₂ l₂ I₂ r₂ R₂ => hh.use a R₂ I₂ fun y s₃ K₃ l₃ I₃ r₃ R₃ => wpAny_pure ?_))
  have J := I₃.ext (h' := s₃.heap.push { cls := .type "slice", data := .fields #[x, y, .none] }) s₃.toks fun _ _ e => Heap.get?_push_of_some _ e
  obtain ⟨b, vs, rfl, hlist, q⟩ := ((r₁.mono l₂).mono l₃).isList J
  have hsize : vs.size = ds.length := by have := q.length; simpa using this
  refine tail_any hlist.typeIs slot_list_getitem.lookup (wpAny_getItem_list_slice hlist (Heap.IsSliceOf.new ..) r₂ r₃ .none (by intro h; cases h) ?_ (by rw [hsize]; exact hsz)) rfl
  exact ((((NewL.push J s₃.toks (by rw [sliceD_pick]; exact q.slice i j)).up l₃).up l₂).up l₁)

theorem foldl_replicate (items : Array Value) (k : Nat) : (List.foldl (fun x1 x2 => x1 ++ x2) #[] (List.replicate k items)).toList = (List.replicate k items.toList).flatten := by
  have : ∀ (k : Nat) (acc : Array Value), (List.foldl (fun x1 x2 => x1 ++ x2) acc (List.replicate k items)).toList = acc.toList ++ (List.replicate k items.toList).flatten := by
    intro k
    induction k with
    | zero => intro acc; simp
    | succ k ih => intro acc; rw [List.replicate_succ, List.foldl_cons, ih]; simp [List.replicate_succ]
  simpa using this k #[]
theorem RepAll.repeat {K : HM} {vs : List Value} {ds : List PyData} (h : RepAll K vs ds) (k : Nat) : RepAll K (List.replicate k vs).flatten (List.replicate k ds).flatten := by
  induction k with
  | zero => exact .nil
  | succ k ih => simpa [List.replicate_succ] using h.append ih
end
end Sq
end

section
set_option autoImplicit false
open PySem PyProof.Rows
namespace Sq
section
variable {C : Cx} {n : Nat} {sc : Scope} {ρ : PEnv}

def BinN (C : Cx) (n : Nat) (op : Value → Value → Sem Value) (d e : PyData) (ds : List PyData) : Prop :=
  ∀ (K Y : HM) (v u : Value) (A : Around) (s : Shared) (E : Value → Shared → Prop), Rep K v d → Rep K u e → AOk n A → Inv C K Y s → wpAny C.md A (op v u) (NewL C K Y ds) E s

theorem EvN.bin {l r : Expr} {op : Operator} {pos : Pos} {d e : PyData} {ds : List PyData} (hl : Ev C n sc ρ l d) (hr : Ev C n sc ρ r e) (h : BinN C n (binaryOp op) d e ds) : EvN C n sc ρ (.BinOp l op r pos) ds := by
  intro A K Y env s E a R I
  refine wpAny_BinOp (hl.use a R I fun v s₁ K₁ l₁ I₁ r₁ R₁ => hr.use a R₁ I₁ fun u s₂ K₂ l₂ I₂ r₂ R₂ => ?_)
  exact wpAny_mono (h K₂ Y v u A s₂ E (r₁.mono l₂) r₂ a I₂) (fun _ _ p => (p.up l₂).up l₁) fun _ _ x => x

theorem BinN.cat {ds es : List PyData} (hs : ds.length + es.length ≤ sizeLine) : BinN C n (binaryOp .Add) (.list ds) (.list es) (ds ++ es) := by
  intro K Y v u A s E r₁ r₂ a I
  obtain ⟨l, ⟨cls, dd, data, sl⟩, vs, m, rfl, h, hc, hd, q⟩ := r₁.listInv
  obtain ⟨l2, ⟨cls2, dd2, data2, sl2⟩, vs2, m2, rfl, h2, hc2, hd2, q2⟩ := r₂.listInv
  simp only at hc hd hc2 hd2
  subst hc hd hc2 hd2
  have z1 : vs.size = ds.length := by have := q.length; simpa using this
  have z2 : vs2.size = es.length := by have := q2.length; simpa using this
  have ho := I.k _ _ h
  have ho2 := I.k _ _ h2
  refine concat_meets ⟨_, ho, rfl⟩ ⟨_, ho2, rfl⟩ noFill_list_add seq_list_add PySem.F.slot_list_add PySem.F.entry_list_add (PySem.F.args_list_add_2 _ _)
    (list_addW l l2 vs vs2 m m2 dd dd2 sl sl2 (by rw [z1, z2]; exact hs)) ⟨ho, ho2, ?_⟩
  exact NewL.push I s.toks (by simpa using q.append q2)

theorem BinN.rep {ds : List PyData} {k : Int} (h0 : -(2 ^ 63) ≤ k) (h1 : k < 2 ^ 63) (hs : ds.length * k.toNat ≤ 2 ^ 24) : BinN C n (binaryOp .Mult) (.list ds) (.int k) (List.replicate k.toNat ds).flatten := by
  intro K Y v u A s E r₁ r₂ a I
  obtain ⟨l, ⟨cls, dd, data, sl⟩, vs, m, rfl, h, hc, hd, q⟩ := r₁.listInv
  cases r₂ with
  | int _ t =>
  simp only at hc hd
  subst hc hd
  have z1 : vs.size = ds.length := by have := q.length; simpa using this
  have ho := I.k _ _ h
  refine wpAny_binaryOp_repeat_ref (T := "list") (U := "int") (by decide) ⟨_, ho, rfl⟩ (fun s' => typeIs_int s' k t) noFill_list_mul PySem.F.fills_int_mul PySem.F.slot_int_rmul repeat_list PySem.F.slot_int_index.lookup
    (call_meets PySem.F.slot_int_rmul (typeIs_int s k t) PySem.F.entry_int_rmul (PySem.F.args_int_rmul_2 _ _) (lm_int_rmul_list_any k t l vs m dd sl)
      ⟨ho, rfl, ⟨_, ho, rfl⟩, call_meets PySem.F.slot_list_mul ⟨_, ho, rfl⟩ PySem.F.entry_list_mul (PySem.F.args_list_mul_2 _ _)
        (lm_list_mul_any l vs m dd sl k t (by simp [Builtin.List.listFitsIndex]; omega) (by rw [z1]; omega) (by simp [Builtin.List.listTooLong, sizeLine, z1]; omega)) ⟨ho, ?_⟩⟩)
  refine NewL.push I s.toks ?_
  rw [foldl_replicate]
  by_cases he : vs.isEmpty = true
  · have : vs = #[] := by simpa using he
    subst this
    have hq : ds = [] := by cases ds with | nil => rfl | cons => simp at z1
    subst hq
    simp [List.flatten_replicate_nil]; exact .nil
  · simp only [he]; exact q.repeat _

theorem EvN.cat {l r : Expr} {pos : Pos} {ds es : List PyData} (hl : Ev C n sc ρ l (.list ds)) (hr : Ev C n sc ρ r (.list es)) (hs : ds.length + es.length ≤ sizeLine) : EvN C n sc ρ (.BinOp l .Add r pos) (ds ++ es) := .bin hl hr (.cat hs)
theorem EvN.rep {l r : Expr} {pos : Pos} {ds : List PyData} {k : Int} (hl : Ev C n sc ρ l (.list ds)) (hr : Ev C n sc ρ r (.int k)) (h0 : -(2 ^ 63) ≤ k) (h1 : k < 2 ^ 63) (hs : ds.length * k.toNat ≤ 2 ^ 24) :
    EvN C n sc ρ (.BinOp l .Mult r pos) (List.replicate k.toNat ds).flatten := .bin hl hr (.rep h0 h1 hs)
end
end Sq
end

section
set_option autoImplicit false
set_option linter.unusedVariables false
open PySem PyProof.Rows
namespace Sq

def Disj (M X : HM) : Prop := ∀ a o, M a = some o → X a = none

structure EnvOk (K M : HM) (sc : Scope) (env : Env) (ρ : PEnv) : Prop where
  rd : EnvRd K M sc env ρ
  loc : ∃ o es ep, M env.locals = some o ∧ o.data = .dict es ep ∧ StrKeys es
  cel : ∀ x, sc.names.lookup x = some .cell → ∃ c o v, env.cells.lookup x = some c ∧ M c = some o ∧ o.data = .cell v
  inj : ∀ x y c, env.cells.lookup x = some c → env.cells.lookup y = some c → x = y
  own : ∀ x y ds es a, x ≠ y → ρ.lookup x = some (.own ds) → ρ.lookup y = some (.own es) → VarAt M env x (.ref a) → VarAt M env y (.ref a) → False

theorem EnvOk.monoK {K K' M : HM} {sc : Scope} {env : Env} {ρ : PEnv} (O : EnvOk K M sc env ρ) (h : HM.le K K') : EnvOk K' M sc env ρ :=
  ⟨O.rd.monoK h, O.loc, O.cel, O.inj, O.own⟩
theorem EnvOk.rdX {K M : HM} {sc : Scope} {env : Env} {ρ : PEnv} (O : EnvOk K M sc env ρ) (X : HM) : EnvRd K (M.join X) sc env ρ := O.rd.mono (HM.le.refl _) (HM.le_join M X)

theorem EnvOk.weak {K M : HM} {sc : Scope} {env : Env} {ρ ρ' : PEnv} (O : EnvOk K M sc env ρ) (h : ∀ x pv, ρ'.lookup x = some pv → ρ.lookup x = some pv) : EnvOk K M sc env ρ' :=
  ⟨⟨O.rd.scp, O.rd.kind, O.rd.gl, O.rd.bi, fun x pv e => O.rd.vars x pv (h x pv e)⟩, O.loc, O.cel, O.inj, fun x y ds es a hne hx hy => O.own x y ds es a hne (h _ _ hx) (h _ _ hy)⟩

theorem Disj.set {M X : HM} (h : Disj M X) {a : Addr} {o : Obj} (ha : X a = none) : Disj (M.set a o) X := fun b o' e => by
  by_cases q : b = a
  · subst q; exact ha
  · rw [HM.set_ne _ _ q] at e; exact h b o' e

def PvAt (K M : HM) (env : Env) (ρ : PEnv) (v : Value) : PV → Prop
  | .val d => Rep K v d
  | .own ds => ∃ a o vs n, v = .ref a ∧ M a = some o ∧ o.cls = .type "list" ∧ (o.dict = none ∧ o.slots = #[]) ∧ o.data = .seq vs n ∧ RepAll K vs.toList ds ∧ ∀ y es, ρ.lookup y = some (.own es) → ¬ VarAt M env y (.ref a)

section
variable {C : Cx} {n : Nat} {sc : Scope} {ρ : PEnv} {A : Around} {K M X : HM} {env : Env} {s : Shared} {E : Value → Shared → Prop}

theorem lookup_cons_self {x : Str} {pv : PV} : List.lookup x ((x, pv) :: ρ) = some pv := by simp
theorem lookup_cons_ne {x y : Str} {pv : PV} (h : y ≠ x) : List.lookup y ((x, pv) :: ρ) = ρ.lookup y := by
  rw [List.lookup_cons, show (y == x) = false from beq_eq_false_iff_ne.mpr h]

theorem EnvOk.after {M' : HM} {x : Str} {v : Value} {pv : PV} (O : EnvOk K M sc env ρ)
    (hvar : VarAt M' env x v) (hother : ∀ y w, y ≠ x → (VarAt M' env y w ↔ VarAt M env y w)) (hlist : ∀ a o vs n, M a = some o → o.data = .seq vs n → M' a = some o)
    (hloc : ∃ o es ep, M' env.locals = some o ∧ o.data = .dict es ep ∧ StrKeys es) (hcel : ∀ c o v, M c = some o → o.data = .cell v → ∃ o' v', M' c = some o' ∧ o'.data = .cell v')
    (hp : PvAt K M env ρ v pv) : EnvOk K M' sc env ((x, pv) :: ρ) := by
  refine ⟨⟨O.rd.scp, O.rd.kind, O.rd.gl, O.rd.bi, fun y p e => ?_⟩, hloc, fun y hy => ?_, O.inj, fun y z ds es a hne hy hz vy vz => ?_⟩
  · by_cases q : y = x
    · subst q
      rw [lookup_cons_self] at e; cases e
      cases pv with
      | val d => exact ⟨v, hvar, hp⟩
      | own ds =>
        obtain ⟨a, o, vs, m, rfl, h1, h2, h3, h4, h5, _⟩ := hp
        exact ⟨a, o, vs, m, hvar, hlist _ _ _ _ h1 h4, h2, h3, h4, h5⟩
    · rw [lookup_cons_ne q] at e
      have V := O.rd.vars y p e
      cases p with
      | val d => obtain ⟨w, a, b⟩ := V; exact ⟨w, (hother y w q).mpr a, b⟩
      | own ds => obtain ⟨a, o, vs, m, h1, h2, h3, h4, h5, h6⟩ := V; exact ⟨a, o, vs, m, (hother _ _ q).mpr h1, hlist _ _ _ _ h2 h5, h3, h4, h5, h6⟩
  · obtain ⟨c, o, v', h1, h2, h3⟩ := O.cel y hy
    obtain ⟨o', v'', h4, h5⟩ := hcel c o v' h2 h3
    exact ⟨c, o', v'', h1, h4, h5⟩
  · by_cases q : y = x
    · subst q
      rw [lookup_cons_self] at hy; cases hy
      have q2 : z ≠ y := fun e => hne e.symm
      rw [lookup_cons_ne q2] at hz
      obtain ⟨a', o, vs, m, rfl, h1, h2, h3, h4, h5, h6⟩ := hp
      cases vy.uniq hvar
      exact h6 z es hz ((hother _ _ q2).mp vz)
    · rw [lookup_cons_ne q] at hy
      by_cases q2 : z = x
      · subst q2
        rw [lookup_cons_self] at hz; cases hz
        obtain ⟨a', o, vs, m, rfl, h1, h2, h3, h4, h5, h6⟩ := hp
        cases vz.uniq hvar
        exact h6 y ds hy ((hother _ _ q).mp vy)
      · rw [lookup_cons_ne q2] at hz
        exact O.own y z ds es a hne hy hz ((hother _ _ q).mp vy) ((hother _ _ q2).mp vz)

theorem EnvOk.store {x : Str} {v : Value} {pv : PV} {Q : Unit → Shared → Prop} (O : EnvOk K M sc env ρ) (I : Inv C K (M.join X) s) (D : Disj M X) (hx : sc.names.lookup x = some .local ∨ sc.names.lookup x = some .cell) (hp : PvAt K M env ρ v pv)
    (k : ∀ s' M', Inv C K (M'.join X) s' → Disj M' X → EnvOk K M' sc env ((x, pv) :: ρ) → Q () s') : wpAny C.md A (storeName env x v) Q E s := by
  obtain ⟨oL, es, ep, hL, hLd, hLk⟩ := O.loc
  rcases hx with hx | hx
  · have hk : env.kindOf x = some .local := (O.rd.kindOf x).trans hx
    obtain ⟨o', ho', se⟩ := I.y _ _ (HM.join_left hL)
    refine wpAny_storeName_local hk ⟨o', es, ep, ho', se.dat.trans hLd, hLk, fun _ => rfl⟩ (fun h' hn hs => ?_) (by rw [O.rd.fk]; rfl)
    obtain ⟨o₁, es₁, ep₁, h1, h2, h3, h4⟩ := hn
    have h4 : ∀ z, nsFind es₁ z = if z = x then some v else nsFind es z := h4
    have J := I.upd (s.toks + 1) (HM.join_left hL) hs.extBut h1
    rw [HM.join_set] at J
    refine k _ (M.set env.locals o₁) J (D.set (D _ _ hL)) (O.after ?_ ?_ ?_ ?_ ?_ hp)
    · exact .inl ⟨hk, o₁, es₁, ep₁, HM.set_self .., h2, h3, by rw [h4]; simp⟩
    · intro y w hy
      constructor
      · rintro (⟨a, o, es', ep', b, c, d, e⟩ | ⟨a, c, o, b, d, e⟩)
        · rw [HM.set_self] at b; cases b
          rw [h2] at c; cases c
          rw [h4, if_neg hy] at e
          exact .inl ⟨a, oL, es, ep, hL, hLd, hLk, e⟩
        · have hne : c ≠ env.locals := fun q => by subst q; rw [HM.set_self] at d; cases d; rw [h2] at e; cases e
          rw [HM.set_ne _ _ hne] at d
          exact .inr ⟨a, c, o, b, d, e⟩
      · rintro (⟨a, o, es', ep', b, c, d, e⟩ | ⟨a, c, o, b, d, e⟩)
        · rw [hL] at b; cases b
          rw [hLd] at c; cases c
          exact .inl ⟨a, o₁, es₁, ep₁, HM.set_self .., h2, h3, by rw [h4, if_neg hy]; exact e⟩
        · have hne : c ≠ env.locals := fun q => by subst q; rw [hL] at d; cases d; rw [hLd] at e; cases e
          exact .inr ⟨a, c, o, b, by rw [HM.set_ne _ _ hne]; exact d, e⟩
    · intro a o vs m ha hd
      have hne : a ≠ env.locals := fun q => by subst q; rw [hL] at ha; cases ha; rw [hLd] at hd; cases hd
      rw [HM.set_ne _ _ hne]; exact ha
    · exact ⟨o₁, es₁, ep₁, HM.set_self .., h2, h3⟩
    · intro c o v' hc hd
      have hne : c ≠ env.locals := fun q => by subst q; rw [hL] at hc; cases hc; rw [hLd] at hd; cases hd
      exact ⟨o, v', by rw [HM.set_ne _ _ hne]; exact hc, hd⟩
  · have hk : env.kindOf x = some .cell := (O.rd.kindOf x).trans hx
    obtain ⟨c, oc, v0, hc, hM, hcd⟩ := O.cel x hx
    obtain ⟨o', ho', se⟩ := I.y _ _ (HM.join_left hM)
    refine wpAny_storeName_cell O.rd.fk hk hc ⟨o', ho', se.dat.trans hcd⟩ fun h' hn hs => ?_
    obtain ⟨o₁, h1, h2⟩ := hn
    have J := I.upd s.toks (HM.join_left hM) hs.extBut h1
    rw [HM.join_set] at J
    refine k _ (M.set c o₁) J (D.set (D _ _ hM)) (O.after ?_ ?_ ?_ ?_ ?_ hp)
    · exact .inr ⟨hk, c, o₁, hc, HM.set_self .., h2⟩
    · intro y w hy
      have hLc : env.locals ≠ c := fun q => by rw [← q, hL] at hM; cases hM; rw [hLd] at hcd; cases hcd
      constructor
      · rintro (⟨a, o, es', ep', b, c', d, e⟩ | ⟨a, c', o, b, d, e⟩)
        · rw [HM.set_ne _ _ hLc] at b; exact .inl ⟨a, o, es', ep', b, c', d, e⟩
        · have hne : c' ≠ c := fun q => hy (O.inj y x c (q ▸ b) hc)
          rw [HM.set_ne _ _ hne] at d
          exact .inr ⟨a, c', o, b, d, e⟩
      · rintro (⟨a, o, es', ep', b, c', d, e⟩ | ⟨a, c', o, b, d, e⟩)
        · exact .inl ⟨a, o, es', ep', by rw [HM.set_ne _ _ hLc]; exact b, c', d, e⟩
        · have hne : c' ≠ c := fun q => hy (O.inj y x c (q ▸ b) hc)
          exact .inr ⟨a, c', o, b, by rw [HM.set_ne _ _ hne]; exact d, e⟩
    · intro a o vs m ha hd
      have hne : a ≠ c := fun q => by subst q; rw [hM] at ha; cases ha; rw [hcd] at hd; cases hd
      rw [HM.set_ne _ _ hne]; exact ha
    · have hLc : env.locals ≠ c := fun q => by rw [← q, hL] at hM; cases hM; rw [hLd] at hcd; cases hcd
      exact ⟨oL, es, ep, by rw [HM.set_ne _ _ hLc]; exact hL, hLd, hLk⟩
    · intro c' o v' hc' hd
      by_cases q : c' = c
      · subst q; exact ⟨o₁, _, HM.set_self .., h2⟩
      · exact ⟨o, v', by rw [HM.set_ne _ _ q]; exact hc', hd⟩

theorem EnvOk.put {x : Str} {ds ds' : List PyData} {a : Addr} {o o' : Obj} {vs' : Array Value} {m' : Nat} (O : EnvOk K M sc env ρ) (hx : ρ.lookup x = some (.own ds)) (V : VarAt M env x (.ref a)) (ha : M a = some o) {vs : Array Value} {m : Nat} (hd : o.data = .seq vs m)
    (hc : o'.cls = .type "list") (hdd : (o'.dict = none ∧ o'.slots = #[])) (hd' : o'.data = .seq vs' m') (r : RepAll K vs'.toList ds') : EnvOk K (M.set a o') sc env ((x, .own ds') :: ρ) := by
  obtain ⟨oL, es, ep, hL, hLd, hLk⟩ := O.loc
  have hLa : env.locals ≠ a := fun q => by rw [← q, hL] at ha; cases ha; rw [hLd] at hd; cases hd
  have hva : ∀ y w, VarAt (M.set a o') env y w ↔ VarAt M env y w := by
    intro y w
    constructor
    · rintro (⟨p, o1, es', ep', b, c', d, e⟩ | ⟨p, c', o1, b, d, e⟩)
      · rw [HM.set_ne _ _ hLa] at b; exact .inl ⟨p, o1, es', ep', b, c', d, e⟩
      · have hne : c' ≠ a := fun q => by subst q; rw [HM.set_self] at d; cases d; rw [hd'] at e; cases e
        rw [HM.set_ne _ _ hne] at d; exact .inr ⟨p, c', o1, b, d, e⟩
    · rintro (⟨p, o1, es', ep', b, c', d, e⟩ | ⟨p, c', o1, b, d, e⟩)
      · exact .inl ⟨p, o1, es', ep', by rw [HM.set_ne _ _ hLa]; exact b, c', d, e⟩
      · have hne : c' ≠ a := fun q => by subst q; rw [ha] at d; cases d; rw [hd] at e; cases e
        exact .inr ⟨p, c', o1, b, by rw [HM.set_ne _ _ hne]; exact d, e⟩
  refine ⟨⟨O.rd.scp, O.rd.kind, O.rd.gl, O.rd.bi, fun y p e => ?_⟩, ⟨oL, es, ep, by rw [HM.set_ne _ _ hLa]; exact hL, hLd, hLk⟩, fun y hy => ?_, O.inj, fun y z d1 d2 b hne hy hz vy vz => ?_⟩
  · by_cases q : y = x
    · subst q
      rw [lookup_cons_self] at e; cases e
      exact ⟨a, o', vs', m', (hva _ _).mpr V, HM.set_self .., hc, hdd, hd', r⟩
    · rw [lookup_cons_ne q] at e
      have W := O.rd.vars y p e
      cases p with
      | val d => obtain ⟨w, a1, b1⟩ := W; exact ⟨w, (hva _ _).mpr a1, b1⟩
      | own es2 =>
        obtain ⟨a2, o2, vs2, m2, h1, h2, h3, h4, h5, h6⟩ := W
        have hne : a2 ≠ a := fun q2 => O.own y x es2 ds a q e hx (q2 ▸ h1) V
        exact ⟨a2, o2, vs2, m2, (hva _ _).mpr h1, by rw [HM.set_ne _ _ hne]; exact h2, h3, h4, h5, h6⟩
  · obtain ⟨c, o1, v', h1, h2, h3⟩ := O.cel y hy
    have hne : c ≠ a := fun q => by subst q; rw [ha] at h2; cases h2; rw [hd] at h3; cases h3
    exact ⟨c, o1, v', h1, by rw [HM.set_ne _ _ hne]; exact h2, h3⟩
  · have vy' := (hva _ _).mp vy
    have vz' := (hva _ _).mp vz
    by_cases q : y = x
    · subst q
      have q2 : z ≠ y := fun e => hne e.symm
      rw [lookup_cons_ne q2] at hz
      exact O.own y z ds d2 b hne hx hz vy' vz'
    · rw [lookup_cons_ne q] at hy
      by_cases q2 : z = x
      · subst q2; exact O.own y z d1 ds b hne hy hx vy' vz'
      · rw [lookup_cons_ne q2] at hz; exact O.own y z d1 d2 b hne hy hz vy' vz'

theorem EnvOk.freeze {x : Str} {ds : List PyData} (O : EnvOk K M sc env ρ) (I : Inv C K (M.join X) s) (D : Disj M X) (hx : ρ.lookup x = some (.own ds)) :
    ∃ K' M', HM.le K K' ∧ Inv C K' (M'.join X) s ∧ Disj M' X ∧ EnvOk K' M' sc env ((x, .val (.list ds)) :: ρ) := by
  obtain ⟨a, o, vs, m, V, ha, hc, hdd, hd, r⟩ := O.rd.vars x _ hx
  obtain ⟨o', se, J⟩ := I.freeze (HM.join_left ha)
  obtain ⟨oL, es, ep, hL, hLd, hLk⟩ := O.loc
  have hKa : K a = none := I.dj _ _ (HM.join_left ha)
  have hle : HM.le K (K.set a o') := HM.le_set hKa
  have hLa : env.locals ≠ a := fun q => by rw [← q, hL] at ha; cases ha; rw [hLd] at hd; cases hd
  have hM' : ∀ b, b ≠ a → (fun b => if b = a then (none : Option Obj) else M b) b = M b := fun b q => if_neg q
  have hva : ∀ y w, VarAt (fun b => if b = a then none else M b) env y w ↔ VarAt M env y w := by
    intro y w
    constructor
    · rintro (⟨p, o1, es', ep', b, c', d, e⟩ | ⟨p, c', o1, b, d, e⟩)
      · rw [hM' _ hLa] at b; exact .inl ⟨p, o1, es', ep', b, c', d, e⟩
      · have hne : c' ≠ a := fun q => by simp [q] at d
        rw [hM' _ hne] at d; exact .inr ⟨p, c', o1, b, d, e⟩
    · rintro (⟨p, o1, es', ep', b, c', d, e⟩ | ⟨p, c', o1, b, d, e⟩)
      · exact .inl ⟨p, o1, es', ep', by rw [hM' _ hLa]; exact b, c', d, e⟩
      · have hne : c' ≠ a := fun q => by subst q; rw [ha] at d; cases d; rw [hd] at e; cases e
        exact .inr ⟨p, c', o1, b, by rw [hM' _ hne]; exact d, e⟩
  refine ⟨K.set a o', fun b => if b = a then none else M b, hle, J.less fun b x' e => ?_, fun b x' e => ?_, ⟨⟨O.rd.scp, O.rd.kind, O.rd.gl, O.rd.bi, fun y p e => ?_⟩, ⟨oL, es, ep, (hM' _ hLa).trans hL, hLd, hLk⟩, fun y hy => ?_, O.inj, fun y z d1 d2 b hne hy hz vy vz => ?_⟩⟩
  · by_cases q : b = a
    · subst q
      rw [HM.join_right (by simp)] at e
      rw [D _ _ ha] at e; cases e
    · simp only [q, if_false]
      simpa [HM.join, q] using e
  · by_cases q : b = a
    · simp [q] at e
    · rw [hM' _ q] at e; exact D b x' e
  · by_cases q : y = x
    · subst q
      rw [lookup_cons_self] at e; cases e
      exact ⟨.ref a, (hva _ _).mpr V, .list (HM.set_self ..) (se.cls.trans hc) (se.dict.trans hdd.1) (se.dat.trans hd) (r.mono hle)⟩
    · rw [lookup_cons_ne q] at e
      have W := O.rd.vars y p e
      cases p with
      | val d => obtain ⟨w, a1, b1⟩ := W; exact ⟨w, (hva _ _).mpr a1, b1.mono hle⟩
      | own es2 =>
        obtain ⟨a2, o2, vs2, m2, h1, h2, h3, h4, h5, h6⟩ := W
        have hne : a2 ≠ a := fun q2 => O.own y x es2 ds a q e hx (q2 ▸ h1) V
        exact ⟨a2, o2, vs2, m2, (hva _ _).mpr h1, by rw [hM' _ hne]; exact h2, h3, h4, h5, h6.mono hle⟩
  · obtain ⟨c, o1, v', h1, h2, h3⟩ := O.cel y hy
    have hne : c ≠ a := fun q => by subst q; rw [ha] at h2; cases h2; rw [hd] at h3; cases h3
    exact ⟨c, o1, v', h1, (hM' _ hne).trans h2, h3⟩
  · have vy' := (hva _ _).mp vy
    have vz' := (hva _ _).mp vz
    by_cases q : y = x
    · subst q; rw [lookup_cons_self] at hy; cases hy
    · rw [lookup_cons_ne q] at hy
      by_cases q2 : z = x
      · subst q2; rw [lookup_cons_self] at hz; cases hz
      · rw [lookup_cons_ne q2] at hz; exact O.own y z d1 d2 b hne hy hz vy' vz'
end

inductive Out where
  | next (ρ : PEnv)
  | ret (d : PyData)

def OutAt (C : Cx) (K : HM) (X : HM) (sc : Scope) (env : Env) (o : Out) (f : Flow) (s' : Shared) : Prop :=
  ∃ K' M', HM.le K K' ∧ Inv C K' (M'.join X) s' ∧ Disj M' X ∧ match o with
    | .next ρ' => f = .next ∧ EnvOk K' M' sc env ρ'
    | .ret d => ∃ v, f = .ret v ∧ Rep K' v d

def Es (C : Cx) (n : Nat) (sc : Scope) (ρ : PEnv) (st : Stmt) (o : Out) : Prop :=
  ∀ (A : Around) (K M X : HM) (env : Env) (s : Shared) (E : Value → Shared → Prop), AOk n A → EnvOk K M sc env ρ → Inv C K (M.join X) s → Disj M X → wpAny C.md A (exec st env) (OutAt C K X sc env o) E s
def Ex (C : Cx) (n : Nat) (sc : Scope) (ρ : PEnv) (st : List Stmt) (o : Out) : Prop :=
  ∀ (A : Around) (K M X : HM) (env : Env) (s : Shared) (E : Value → Shared → Prop), AOk n A → EnvOk K M sc env ρ → Inv C K (M.join X) s → Disj M X → wpAny C.md A (execs st env) (OutAt C K X sc env o) E s

section
variable {C : Cx} {n : Nat} {sc : Scope} {ρ : PEnv}
theorem OutAt.up {K K₁ X : HM} {env : Env} {o : Out} {f : Flow} {s' : Shared} (h : HM.le K K₁) (p : OutAt C K₁ X sc env o f s') : OutAt C K X sc env o f s' :=
  let ⟨K', M', l, r⟩ := p; ⟨K', M', h.trans l, r⟩

theorem Ex.nil : Ex C n sc ρ [] (.next ρ) := fun A K M X env s E a O I D => wpAny_execs_nil ⟨K, M, HM.le.refl _, I, D, rfl, O⟩
theorem Ex.cons {st : Stmt} {rest : List Stmt} {ρ₁ : PEnv} {o : Out} (h : Es C n sc ρ st (.next ρ₁)) (k : Ex C n sc ρ₁ rest o) : Ex C n sc ρ (st :: rest) o := by
  intro A K M X env s E a O I D
  refine wpAny_execs_cons (wpAny_mono (h A K M X env s E a O I D) (fun f s' p => ?_) fun _ _ x => x)
  obtain ⟨K', M', l, I', D', rfl, O'⟩ := p
  exact wpAny_mono (k A K' M' X env s' E a O' I' D') (fun _ _ p => p.up l) fun _ _ x => x
theorem Ex.ret {st : Stmt} {rest : List Stmt} {d : PyData} (h : Es C n sc ρ st (.ret d)) : Ex C n sc ρ (st :: rest) (.ret d) := by
  intro A K M X env s E a O I D
  refine wpAny_execs_cons (wpAny_mono (h A K M X env s E a O I D) (fun f s' p => ?_) fun _ _ x => x)
  obtain ⟨K', M', l, I', D', v, rfl, r⟩ := p
  exact ⟨K', M', l, I', D', v, rfl, r⟩

theorem Ex.weak {ρ' : PEnv} {st : List Stmt} {o : Out} (h : Ex C n sc ρ' st o) (hw : ∀ x pv, ρ'.lookup x = some pv → ρ.lookup x = some pv) : Ex C n sc ρ st o :=
  fun A K M X env s E a O I D => h A K M X env s E a (O.weak hw) I D
theorem Ex.post {ρ₁ ρ₂ : PEnv} {st : List Stmt} (h : Ex C n sc ρ st (.next ρ₁)) (hw : ∀ x pv, ρ₂.lookup x = some pv → ρ₁.lookup x = some pv) : Ex C n sc ρ st (.next ρ₂) :=
  fun A K M X env s E a O I D => wpAny_mono (h A K M X env s E a O I D) (fun _ _ ⟨K', M', l, I', D', e, O'⟩ => ⟨K', M', l, I', D', e, O'.weak hw⟩) fun _ _ x => x

theorem Ex.frz {x : Str} {ds : List PyData} {st : List Stmt} {o : Out} (hx : ρ.lookup x = some (.own ds)) (h : Ex C n sc ((x, .val (.list ds)) :: ρ) st o) : Ex C n sc ρ st o := by
  intro A K M X env s E a O I D
  obtain ⟨K', M', l, I', D', O'⟩ := O.freeze I D hx
  exact wpAny_mono (h A K' M' X env s E a O' I' D') (fun _ _ p => p.up l) fun _ _ x => x

theorem Es.assign {x : Str} {pos' pos : Pos} {e : Expr} {d : PyData} (h : Ev C n sc ρ e d) (hx : sc.names.lookup x = some .local ∨ sc.names.lookup x = some .cell)
    (hs : ∀ env : Env, swapsWith e (some (.Name x pos')) pos.line env = pure false := by intro _; rfl) : Es C n sc ρ (.Assign [.Name x pos'] e pos) (.next ((x, .val d) :: ρ)) := by
  intro A K M X env s E a O I D
  refine wpAny_Assign_Name (h.use a (O.rdX X) I fun v s₁ K₁ l₁ I₁ r₁ R₁ => (O.monoK l₁).store (pv := .val d) I₁ D hx r₁ fun s' M' I' D' O' => ?_) (hs env)
  exact ⟨K₁, M', l₁, I', D', rfl, O'⟩

theorem Es.assignN {x : Str} {pos' pos : Pos} {e : Expr} {ds : List PyData} (h : EvN C n sc ρ e ds) (hx : sc.names.lookup x = some .local ∨ sc.names.lookup x = some .cell)
    (hs : ∀ env : Env, swapsWith e (some (.Name x pos')) pos.line env = pure false := by intro _; rfl) : Es C n sc ρ (.Assign [.Name x pos'] e pos) (.next ((x, .own ds) :: ρ)) := by
  intro A K M X env s E a O I D
  refine wpAny_Assign_Name (wpAny_mono (h A K (M.join X) env s E a (O.rdX X) I) (fun v s₁ p => ?_) fun _ _ x => x) (hs env)
  obtain ⟨K₁, b, o, vs, m, l₁, rfl, hn, I₁, hc, hdd, hd, r⟩ := p
  rw [HM.join_set] at I₁
  have hMb : M b = none := by
    cases q : M b with
    | none => rfl
    | some o' => rw [HM.join_left q] at hn; cases hn
  have hXb : X b = none := by rw [HM.join_right hMb] at hn; exact hn
  have hle : HM.le M (M.set b o) := HM.le_set hMb
  have hva : ∀ y w, VarAt (M.set b o) env y w → VarAt M env y w := by
    intro y w
    obtain ⟨oL, es, ep, hL, hLd, hLk⟩ := O.loc
    have hLb : env.locals ≠ b := fun q => by rw [q, hMb] at hL; cases hL
    rintro (⟨p, o1, es', ep', b', c', d, e⟩ | ⟨p, c', o1, b', d, e⟩)
    · rw [HM.set_ne _ _ hLb] at b'; exact .inl ⟨p, o1, es', ep', b', c', d, e⟩
    · have hne : c' ≠ b := fun q => by subst q; rw [HM.set_self] at d; cases d; rw [hd] at e; cases e
      rw [HM.set_ne _ _ hne] at d; exact .inr ⟨p, c', o1, b', d, e⟩
  have O₁ : EnvOk K₁ (M.set b o) sc env ρ := by
    obtain ⟨oL, es, ep, hL, hLd, hLk⟩ := O.loc
    refine ⟨(O.rd.mono l₁ hle), ⟨oL, es, ep, hle _ _ hL, hLd, hLk⟩, fun y hy => ?_, O.inj, fun y z d1 d2 b' hne hy hz vy vz => O.own y z d1 d2 b' hne hy hz (hva _ _ vy) (hva _ _ vz)⟩
    obtain ⟨c, o1, v', h1, h2, h3⟩ := O.cel y hy
    exact ⟨c, o1, v', h1, hle _ _ h2, h3⟩
  refine O₁.store I₁ (D.set hXb) hx (pv := .own ds) ⟨b, o, vs, m, rfl, HM.set_self .., hc, hdd, hd, r, fun y es hy vy => ?_⟩ fun s' M' I' D' O' => ⟨K₁, M', l₁, I', D', rfl, O'⟩
  obtain ⟨a2, o2, vs2, m2, h1, h2, _⟩ := O.rd.vars y _ hy
  have e := (hva _ _ vy).uniq h1
  cases e
  rw [hMb] at h2; cases h2

theorem Es.ret {e : Expr} {pos : Pos} {d : PyData} (h : Ev C n sc ρ e d) : Es C n sc ρ (.Return (some e) pos) (.ret d) := by
  intro A K M X env s E a O I D
  exact wpAny_Return_some (h.use a (O.rdX X) I fun v s₁ K₁ l₁ I₁ r₁ R₁ => ⟨K₁, M, l₁, I₁, D, v, rfl, r₁⟩)

theorem Es.iff {test : Expr} {body orelse : List Stmt} {pos : Pos} {b : Bool} {o : Out} (ht : Tt C n sc ρ test b) (hb : Ex C n sc ρ (if b then body else orelse) o) : Es C n sc ρ (.If test body orelse pos) o := by
  intro A K M X env s E a O I D
  refine wpAny_If (wpAny_mono (ht A K (M.join X) env s E a (O.rdX X) I) (fun r s₁ p => ?_) fun _ _ x => x)
  obtain ⟨rfl, K₁, l₁, I₁⟩ := p
  cases r
  · exact wpAny_mono (hb A K₁ M X env s₁ E a (O.monoK l₁) I₁ D) (fun _ _ p => p.up l₁) fun _ _ x => x
  · exact wpAny_mono (hb A K₁ M X env s₁ E a (O.monoK l₁) I₁ D) (fun _ _ p => p.up l₁) fun _ _ x => x
end
end Sq
end

section
set_option autoImplicit false
set_option linter.unusedVariables false
open PySem PyProof.Rows
namespace Sq

def GlobV (C : Cx) (x : Str) (v : Value) : Prop :=
  ∀ (A : Around) (K Y : HM) (env : Env) (s : Shared) (E : Value → Shared → Prop) (Q : Value → Shared → Prop), env.globals = mainGlobals → env.builtins = builtinsNs → Inv C K Y s → Q v s → wpAny C.md A (loadGlobal env x) Q E s

def NsIn (K : HM) (a : Addr) (m : Str → Option Value) : Prop := ∃ o es ep, K a = some o ∧ o.data = .dict es ep ∧ StrKeys es ∧ ∀ x, nsFind es x = m x
theorem NsIn.ns {C : Cx} {K Y : HM} {s : Shared} {a : Addr} {m : Str → Option Value} (h : NsIn C.K0 a m) (I : Inv C K Y s) : s.heap.Ns a m :=
  let ⟨o, es, ep, k, r⟩ := h; ⟨o, es, ep, I.k _ _ (I.top _ _ k), r⟩
theorem GlobV.own {C : Cx} {x : Str} {v : Value} {mg : Str → Option Value} (h : NsIn C.K0 mainGlobals mg) (hv : mg x = some v) : GlobV C x v :=
  fun A K Y env s E Q hg hb I q => Calls.loadGlobal_global (mg := mg) (by rw [hg]; exact h.ns I) hv q
theorem GlobV.builtin {C : Cx} {x : Str} {v : Value} {mg mb : Str → Option Value} (h : NsIn C.K0 mainGlobals mg) (h' : NsIn C.K0 builtinsNs mb) (hn : mg x = none) (hv : mb x = some v) : GlobV C x v :=
  fun A K Y env s E Q hg hb I q => Calls.loadGlobal_builtin (mg := mg) (mb := mb) (by rw [hg]; exact h.ns I) hn (by rw [hb]; exact h'.ns I) hv q

def CallB (C : Cx) (n : Nat) (f : Value) (ds : List PyData) (r : PyData) : Prop :=
  ∀ (K Y : HM) (vs : List Value) (A : Around) (s : Shared) (E : Value → Shared → Prop), RepAll K vs ds → AOk n A → Inv C K Y s → wpAny C.md A (call f vs) (Post C K Y r) E s
def CallN (C : Cx) (n : Nat) (f : Value) (ds : List PyData) (r : List PyData) : Prop :=
  ∀ (K Y : HM) (vs : List Value) (A : Around) (s : Shared) (E : Value → Shared → Prop), RepAll K vs ds → AOk n A → Inv C K Y s → wpAny C.md A (call f vs) (NewL C K Y r) E s
theorem CallN.call {C : Cx} {n : Nat} {f : Value} {ds r : List PyData} (h : CallN C n f ds r) : CallB C n f ds (.list r) :=
  fun K Y vs A s E q a I => wpAny_mono (h K Y vs A s E q a I) (fun _ _ p => p.post) fun _ _ x => x

inductive Callee (C : Cx) : Value → Prop
  | builtin (id : String) : Callee C (.builtin id)
  | type (T : String) : Callee C (.type T)
  | fn {f : Addr} {o : Obj} {fd : FuncData} : C.K0 f = some o → o.data = .func fd → Callee C (.ref f)

section
variable {C : Cx} {n : Nat} {sc : Scope} {ρ : PEnv}

theorem EvL.noStar {es : List Expr} {ds : List PyData} (h : EvL C n sc ρ es ds) (pos : Pos) (env : Env) : (backTo pos (starEach es env)).any (·.1) = false := by
  induction h with
  | nil => rfl
  | cons h hs _ ih => rw [starEach_plain hs]; simpa [backTo] using ih

theorem EvL.callWith {es : List Expr} {ds : List PyData} (h : EvL C n sc ρ es ds) (hne : es ≠ []) {pos p : Pos} {f : Value} (hf : Callee C f) (first : List Value) {A : Around} {K Y : HM} {env : Env} {s : Shared} {E : Value → Shared → Prop} {Q : Value → Shared → Prop}
    (a : AOk n A) (R : EnvRd K Y sc env ρ) (I : Inv C K Y s) (k : ∀ vs s' K', HM.le K K' → Inv C K' Y s' → RepAll K' vs ds → wpAny C.md A (call f (first ++ vs)) Q E s') :
    wpAny C.md A (callWith pos f first (backTo p (starEach es env)) []) Q E s := by
  have hpl := h.noStar p env
  have ev : ∀ {Q' : Args → Shared → Prop}, (∀ vs s' K', HM.le K K' → Inv C K' Y s' → RepAll K' vs ds → Q' ⟨vs, []⟩ s') → wpAny C.md A (evalArgs f true (backTo p (starEach es env)) []) Q' E s := by
    intro Q' hQ
    have hsp := h.spliced p (Q := fun vs s' => Q' ⟨vs, []⟩ s') a R I (E := E) hQ
    cases h with
    | nil => exact absurd rfl hne
    | cons h hs r =>
      rw [starEach_plain hs] at hsp ⊢
      exact Calls.evalArgs_plain hsp
  cases hf with
  | builtin id => exact Calls.callWith_builtin hpl (ev fun vs s' K' l I' r => k vs s' K' l I' r)
  | type T => exact PySem.callWith_type hpl (ev fun vs s' K' l I' r => k vs s' K' l I' r)
  | fn hk hd => exact Calls.callWith_function (ev fun vs s' K' l I' r => ⟨⟨I'.k _ _ (I'.top _ _ hk), hd⟩, k vs s' K' l I' r⟩)

theorem call_name {f : Str} {pf pos : Pos} {fv : Value} {A : Around} {K Y : HM} {env : Env} {s : Shared} {E : Value → Shared → Prop} {es : List Expr} {Q : Value → Shared → Prop} (hg : GlobV C f fv) (hk : sc.names.lookup f = some .globalImplicit) (R : EnvRd K Y sc env ρ) (I : Inv C K Y s)
    (hd : (f == ("__debug__" : Str)) = false) (h : wpAny C.md A (callWith pos fv [] (backTo pos (starEach es env)) []) Q E s) : wpAny C.md A (eval (.Call (.Name f pf) es [] pos) env) Q E s := by
  show wpAny C.md A (do callWith pos (← eval (.Name f pf) env) [] (backTo pos (starEach es env)) (backToKw pos (keywordEach [] env))) Q E s
  exact wpAny_bind (Calls.Name_function_global R.fk ((R.kindOf f).trans hk) (hg A K Y env s E _ R.gl R.bi I h) hd)

theorem Ev.call {f : Str} {pf pos : Pos} {fv : Value} {es : List Expr} {ds : List PyData} {r : PyData} (hg : GlobV C f fv) (hk : sc.names.lookup f = some .globalImplicit) (hf : Callee C fv) (ha : EvL C n sc ρ es ds) (h : CallB C n fv ds r)
    (hne : es ≠ [] := by exact List.cons_ne_nil _ _) (hd : (f == ("__debug__" : Str)) = false := by decide) : Ev C n sc ρ (.Call (.Name f pf) es [] pos) r := by
  intro A K Y env s E a R I
  exact call_name hg hk R I hd (ha.callWith hne hf [] a R I fun vs s' K' l I' q => wpAny_mono (h K' Y vs A s' E q a I') (fun _ _ p => p.up l) fun _ _ x => x)
theorem EvN.call {f : Str} {pf pos : Pos} {fv : Value} {es : List Expr} {ds : List PyData} {r : List PyData} (hg : GlobV C f fv) (hk : sc.names.lookup f = some .globalImplicit) (hf : Callee C fv) (ha : EvL C n sc ρ es ds) (h : CallN C n fv ds r)
    (hne : es ≠ [] := by exact List.cons_ne_nil _ _) (hd : (f == ("__debug__" : Str)) = false := by decide) : EvN C n sc ρ (.Call (.Name f pf) es [] pos) r := by
  intro A K Y env s E a R I
  exact call_name hg hk R I hd (ha.callWith hne hf [] a R I fun vs s' K' l I' q => wpAny_mono (h K' Y vs A s' E q a I') (fun _ _ p => p.up l) fun _ _ x => x)

theorem CallB.up {m : Nat} {f : Value} {ds : List PyData} {r : PyData} (h : CallB C n f ds r) (hm : n ≤ m) : CallB C m f ds r := fun K Y vs A s E q a I => h K Y vs A s E q (a.le hm) I

structure FnAt (C : Cx) (f : Addr) (ps : List Str) (body : List Stmt) (scope : Scope) : Prop where
  at_ : ∃ o fd, C.K0 f = some o ∧ o.data = .func fd ∧ fd.body = .stmts body ∧ fd.scope = scope ∧ fd.globals = mainGlobals ∧ fd.builtins = builtinsNs ∧ fd.closure = [] ∧
    (∀ vs : List Value, vs.length = ps.length → bindArgs fd ⟨vs, []⟩ = pure (ps.zip vs)) ∧ ∃ c oc vs t, fd.code = .ref c ∧ C.K0 c = some oc ∧ oc.data = .fields vs ∧ vs[1]? = some (.str fd.qualname t)
  kind : scope.kind = .function
  gen : scope.isGenerator = false
  co : scope.isCoroutine = false
  par : ∀ p ∈ ps, scope.names.lookup p = some .local ∨ (scope.names.lookup p = some .cell)
  nod : ps.Nodup

theorem FnAt.callee {f : Addr} {ps : List Str} {body : List Stmt} {scope : Scope} (F : FnAt C f ps body scope) : Callee C (.ref f) :=
  let ⟨_, _, h, h', _⟩ := F.at_; .fn h h'

theorem cellsFrom_lookup {x : Str} : ∀ (names : List (Str × NameKind)) (n : Nat) (acc : List (Str × Addr)), names.lookup x = some .cell ∨ (acc.lookup x).isSome = true → ((cellsFrom n names acc).lookup x).isSome = true
  | [], _, _, h => h.elim (fun e => by cases e) id
  | (y, k) :: r, n, acc, h => by
    unfold cellsFrom
    by_cases hk : (k == .cell) = true
    · rw [if_pos hk]
      refine cellsFrom_lookup r (n + 1) ((y, n) :: acc) ?_
      by_cases hy : (x == y) = true
      · exact .inr (by rw [List.lookup_cons, hy]; rfl)
      · refine h.imp (fun e => ?_) fun e => ?_
        · rw [List.lookup_cons] at e; simpa only [hy] using e
        · rw [List.lookup_cons]; simpa only [hy] using e
    · rw [if_neg hk]
      refine cellsFrom_lookup r n acc ?_
      by_cases hy : (x == y) = true
      · refine .inr (h.elim (fun e => ?_) id)
        rw [List.lookup_cons, hy] at e
        exact absurd (by rw [Option.some.inj e]; rfl) hk
      · refine h.imp (fun e => ?_) id
        rw [List.lookup_cons] at e; simpa only [hy] using e

theorem bindL_get {kindOf : Str → Option NameKind} {x : Str} : ∀ (binds : List (Str × Value)) (m : Str → Option Value), kindOf x = some .local → bindL kindOf binds m x = (binds.reverse.lookup x).or (m x)
  | [], m, _ => by simp [bindL]
  | (y, v) :: r, m, hk => by
    unfold bindL
    rw [bindL_get r _ hk, List.reverse_cons, List.lookup_append, Option.or_assoc]
    congr 1
    by_cases q : x = y
    · subst q; simp [hk]
    · have hb : (x == y) = false := beq_eq_false_iff_ne.mpr q
      simp only [List.lookup_cons, hb, List.lookup_nil, Option.none_or]
      split <;> simp [q]
theorem bindC_get {kindOf : Str → Option NameKind} {x : Str} : ∀ (binds : List (Str × Value)) (m : Str → Option Value), kindOf x ≠ some .local → bindC kindOf binds m x = (binds.reverse.lookup x).or (m x)
  | [], m, _ => by simp [bindC]
  | (y, v) :: r, m, hk => by
    unfold bindC
    rw [bindC_get r _ hk, List.reverse_cons, List.lookup_append, Option.or_assoc]
    congr 1
    by_cases q : x = y
    · subst q; simp [hk]
    · have hb : (x == y) = false := beq_eq_false_iff_ne.mpr q
      simp only [List.lookup_cons, hb, List.lookup_nil, Option.none_or]
      split <;> simp [q]

def params (ps : List Str) (ds : List PyData) : PEnv := ps.zip (ds.map .val)

theorem lookup_zip_rev {β : Type} {x : Str} : ∀ (ps : List Str) (vs : List β), ps.Nodup → (ps.zip vs).reverse.lookup x = (ps.zip vs).lookup x
  | [], _, _ => rfl
  | _ :: _, [], _ => rfl
  | p :: ps, v :: vs, h => by
    obtain ⟨h1, h2⟩ := List.nodup_cons.mp h
    rw [List.zip_cons_cons, List.reverse_cons, List.lookup_append, lookup_zip_rev ps vs h2, List.lookup_cons]
    by_cases q : x = p
    · subst q
      have hn : (ps.zip vs).lookup x = none := by
        cases e : (ps.zip vs).lookup x with
        | none => rfl
        | some w => exact absurd (List.of_mem_zip (mem_of_lookup e)).1 h1
      simp [hn]
    · have hb : (x == p) = false := beq_eq_false_iff_ne.mpr q
      simp only [hb, List.lookup_cons, List.lookup_nil, Option.or_none]

theorem params_lookup {K : HM} {x : Str} {pv : PV} : ∀ {ps : List Str} {ds : List PyData} {vs : List Value}, RepAll K vs ds → (params ps ds).lookup x = some pv → ∃ v d, pv = .val d ∧ (ps.zip vs).lookup x = some v ∧ Rep K v d
  | [], _, _, _, h => by simp [params] at h
  | p :: ps, [], _, _, h => by simp [params] at h
  | p :: ps, d :: ds, _, .cons (v := v) (vs := vs) r rs, h => by
    simp only [params, List.map_cons, List.zip_cons_cons, List.lookup_cons] at h ⊢
    cases hb : x == p with
    | true => rw [hb] at h; simp only [Option.some.injEq] at h; subst h; exact ⟨v, d, rfl, rfl, r⟩
    | false => rw [hb] at h; exact params_lookup rs h

open Classical in

theorem call_fn {f : Addr} {ps : List Str} {body : List Stmt} {scope : Scope} {ds : List PyData} (F : FnAt C f ps body scope) (hlen : ds.length = ps.length) (hl : ∃ mc, NsIn C.K0 cStatics mc ∧ mc "sys.recursionlimit" = none)
    {K Y : HM} {vs : List Value} {A : Around} {s : Shared} {E : Value → Shared → Prop} {Q : Value → Shared → Prop} (q : RepAll K vs ds) (a : AOk (n + 1) A) (I : Inv C K Y s)
    (h : ∀ (env : Env) (M : HM) (s₁ : Shared), AOk n (A.deeper env) → EnvOk K M scope env (params ps ds) → (∃ o fd, C.K0 f = some o ∧ o.data = .func fd ∧ env.code = fd.code) → env.frame = some env.locals → Inv C K (M.join Y) s₁ → Disj M Y →
      wpAny C.md (A.deeper env) (execs body env) (fun fl s' => Q (match fl with | .ret v => v | _ => .none) s') (fun e s' => wpAny C.md (A.deeper env) (leaving env e) (fun _ s'' => E e s'') (fun e' s'' => E e' s'') s') s₁) :
    wpAny C.md A (call (.ref f) vs) Q E s := by
  obtain ⟨o, fd, hf, hd, hbody, rfl, hgl, hbi, hclo, hbind, c, oc, cvs, t, hcode, hc0, hcd, hq⟩ := F.at_
  have hvl : vs.length = ps.length := q.length.trans hlen
  have keepK : ∀ {s' : Shared}, (∀ b o, s.heap.get? b = some o → s'.heap.get? b = some o) → s'.heap.NoLimit := by
    intro s' hk
    obtain ⟨mc, hns, hnone⟩ := hl
    exact ⟨mc, (hns.ns I).keeps hk, hnone⟩
  refine wpAny_call (codeAny_call_function a.room (I.k _ _ (I.top _ _ hf)) hd F.co F.gen hbody ⟨c, oc, cvs, t, hcode, I.k _ _ (I.top _ _ hc0), hcd, hq⟩ ?_)
  rw [hbind vs hvl, hclo]
  refine wpAny_pure (wpAny_newFunctionEnv_cells F.kind ?_ fun env henv s₁ x => ?_)
  · intro y hy
    rcases F.par y.1 (List.of_mem_zip hy).1 with h1 | h1
    · exact .inl h1
    · exact .inr ⟨h1, cellsFrom_lookup _ _ _ (.inl h1)⟩
  obtain ⟨⟨⟨h₁, tk, hs₁⟩, hns, hkeep, hfresh⟩, hcell, hap, habove⟩ := x
  have hsc : env.scope = fd.scope := by rw [henv]; rfl
  have hloc : env.locals = s.heap.objs.size := by rw [henv]; rfl
  have hcells : env.cells = cellsFrom (s.heap.objs.size + 1) fd.scope.names [] := by rw [henv]; rfl
  refine ⟨keepK hkeep, codeAny_func ?_⟩
  have hkind : ∀ y, env.kindOf y = fd.scope.names.lookup y := fun y => by unfold Env.kindOf; rw [hsc]

  obtain ⟨oL, esL, epL, hoL, hdL, hkL, hfL⟩ := hns
  let M : HM := fun b => if (b = env.locals ∨ ∃ x, env.cells.lookup x = some b) then s₁.heap.get? b else none
  have hML : M env.locals = some oL := by show (if _ then _ else _) = _; rw [if_pos (.inl rfl)]; exact hoL
  have hMc : ∀ {x c}, env.cells.lookup x = some c → M c = s₁.heap.get? c := fun {x c} e => by show (if _ then _ else _) = _; rw [if_pos (.inr ⟨x, e⟩)]
  have hMnew : ∀ b o, M b = some o → s₁.heap.get? b = some o ∧ s.heap.objs.size ≤ b := by
    intro b o e
    have e' : (if (b = env.locals ∨ ∃ x, env.cells.lookup x = some b) then s₁.heap.get? b else none) = some o := e
    split at e'
    · rename_i hb
      refine ⟨e', ?_⟩
      rcases hb with rfl | ⟨x, hx⟩
      · exact hfresh
      · exact Nat.le_of_lt (Nat.lt_of_le_of_lt hfresh (habove x b (mem_of_lookup hx)))
    · cases e'
  have hYold : ∀ b o, Y b = some o → b < s.heap.objs.size := fun b o e => let ⟨o', h, _⟩ := I.y b o e; Heap.lt_size h
  have hKold : ∀ b o, K b = some o → b < s.heap.objs.size := fun b o e => Heap.lt_size (I.k b o e)
  have D : Disj M Y := fun b o e => by
    cases q : Y b with
    | none => rfl
    | some o' => exact absurd (hYold b o' q) (Nat.not_lt.mpr (hMnew b o e).2)
  have I₁ : Inv C K (M.join Y) s₁ := by
    have J : Inv C K Y s₁ := by rw [hs₁] at hkeep ⊢; exact I.ext tk hkeep
    refine ⟨J.k, fun b o e => ?_, fun b o e => ?_, J.top, J.pk, ?_, J.tab, J.os, J.gens⟩
    · rcases HM.join_some e with e | ⟨_, e⟩
      · exact ⟨o, (hMnew b o e).1, SE.refl _⟩
      · exact J.y b o e
    · rcases HM.join_some e with e | ⟨_, e⟩
      · cases q : K b with
        | none => rfl
        | some o' => exact absurd (hKold b o' q) (Nat.not_lt.mpr (hMnew b o e).2)
      · exact J.dj b o e
    · have hMP : M C.P = none := by
        cases q : M C.P with
        | none => rfl
        | some o' =>
          obtain ⟨ps', e, _⟩ := I.tab
          exact absurd (Heap.lt_size e) (Nat.not_lt.mpr (hMnew _ _ q).2)
      rw [HM.join_right hMP]; exact J.py
  have O : EnvOk K M fd.scope env (params ps ds) := by
    refine ⟨⟨hsc, F.kind, by rw [henv]; exact hgl, by rw [henv]; exact hbi, fun y pv e => ?_⟩, ⟨oL, esL, epL, hML, hdL, hkL⟩, fun y hy => ?_, fun y z c hy hz => ?_, fun y z d1 d2 b hne hy => ?_⟩
    · obtain ⟨v, d, rfl, hv, rv⟩ := params_lookup q e
      have hmem := (List.of_mem_zip (mem_of_lookup hv)).1
      have hrev : (ps.zip vs).reverse.lookup y = some v := by rw [lookup_zip_rev _ _ F.nod]; exact hv
      refine ⟨v, ?_, rv⟩
      rcases F.par y hmem with h1 | h1
      · have hk := (hkind y).trans h1
        exact .inl ⟨hk, oL, esL, epL, hML, hdL, hkL, by rw [hfL, bindL_get _ _ hk, hrev]; rfl⟩
      · have hk := (hkind y).trans h1
        have hs := cellsFrom_lookup (x := y) fd.scope.names (s.heap.objs.size + 1) [] (.inl h1)
        rw [← hcells] at hs
        obtain ⟨c', hc'⟩ := Option.isSome_iff_exists.mp hs
        obtain ⟨o', ho', hd'⟩ := hcell y c' hc'
        exact .inr ⟨hk, c', o', hc', (hMc hc').trans ho', by rw [hd', bindC_get _ _ (by rw [hk]; decide), hrev]; rfl⟩
    · have hs := cellsFrom_lookup (x := y) fd.scope.names (s.heap.objs.size + 1) [] (.inl hy)
      rw [← hcells] at hs
      obtain ⟨c', hc'⟩ := Option.isSome_iff_exists.mp hs
      obtain ⟨o', ho', hd'⟩ := hcell y c' hc'
      exact ⟨c', o', _, hc', (hMc hc').trans ho', hd'⟩
    · exact name_of_addr hap (mem_of_lookup hy) (mem_of_lookup hz)
    · obtain ⟨v, d, e, _⟩ := params_lookup q hy
      cases e
  exact h env M s₁ (a.deeper env) O ⟨o, fd, hf, hd, by rw [henv]; rfl⟩ (by rw [henv]; rfl) I₁ D

theorem CallB.fnE {f : Addr} {ps : List Str} {body : List Stmt} {scope : Scope} {ds : List PyData} {r : PyData} (F : FnAt C f ps body scope) (hlen : ds.length = ps.length) (hl : ∃ mc, NsIn C.K0 cStatics mc ∧ mc "sys.recursionlimit" = none)
    (h : ∀ (A : Around) (K M X : HM) (env : Env) (s : Shared) (E : Value → Shared → Prop), AOk n A → EnvOk K M scope env (params ps ds) → (∃ o fd, C.K0 f = some o ∧ o.data = .func fd ∧ env.code = fd.code) → Inv C K (M.join X) s → Disj M X → wpAny C.md A (execs body env) (OutAt C K X scope env (.ret r)) E s) : CallB C (n + 1) (.ref f) ds r := by
  intro K Y vs A s E q a I
  refine call_fn F hlen hl q a I fun env M s₁ a₁ O hc _ I₁ D => wpAny_mono (h (A.deeper env) K M Y env s₁ _ a₁ O hc I₁ D) (fun fl s' p => ?_) fun _ _ x => x
  obtain ⟨K', M', l, I', D', v, rfl, rv⟩ := p
  refine ⟨K', l, I'.less fun b o e => ?_, rv⟩
  have hn : M' b = none := by
    cases q : M' b with
    | none => rfl
    | some o' => have := D' b o' q; rw [e] at this; cases this
  rw [HM.join_right hn]; exact e

theorem CallB.fn {f : Addr} {ps : List Str} {body : List Stmt} {scope : Scope} {ds : List PyData} {r : PyData} (F : FnAt C f ps body scope) (hlen : ds.length = ps.length) (hl : ∃ mc, NsIn C.K0 cStatics mc ∧ mc "sys.recursionlimit" = none)
    (h : Ex C n scope (params ps ds) body (.ret r)) : CallB C (n + 1) (.ref f) ds r :=
  CallB.fnE F hlen hl fun A K M X env s E a O _ I D => h A K M X env s E a O I D
end
end Sq
end

section
set_option autoImplicit false
set_option linter.unusedVariables false
open PySem PyProof.Rows
namespace Sq

def HM.del (Y : HM) (a : Addr) : HM := fun b => if b = a then none else Y b
theorem HM.del_le (Y : HM) (a : Addr) : HM.le (Y.del a) Y := fun b o e => by
  by_cases q : b = a
  · simp [HM.del, q] at e
  · simpa [HM.del, q] using e
theorem HM.del_ne (Y : HM) {a b : Addr} (h : b ≠ a) : Y.del a b = Y b := if_neg h
theorem HM.del_self (Y : HM) (a : Addr) : Y.del a a = none := if_pos rfl

theorem Inv.drop {C : Cx} {K Y : HM} {s : Shared} (I : Inv C K Y s) {h' : Heap} (t : Nat) {a : Addr} {o₀ : Obj} (hy : Y a = some o₀) (hk : Heap.ExtBut a s.heap h') : Inv C K (Y.del a) { s with heap := h', toks := t } := by
  have hp : C.P ≠ a := fun q => by have := I.py; rw [q, hy] at this; cases this
  refine ⟨fun b o' e => ?_, fun b o' e => ?_, fun b o' e => I.dj b o' (Y.del_le a _ _ e), I.top, I.pk, ?_, ?_, I.os, I.gens⟩
  · refine hk b o' (fun q => ?_) (I.k b o' e)
    subst q; rw [I.dj b o₀ hy] at e; cases e
  · have q : b ≠ a := fun q => by rw [q, HM.del_self] at e; cases e
    rw [HM.del_ne _ q] at e
    obtain ⟨o1, x, r⟩ := I.y _ _ e
    exact ⟨o1, hk _ _ q x, r⟩
  · rw [HM.del_ne _ hp]; exact I.py
  · obtain ⟨ps, e, q⟩ := I.tab
    exact ⟨ps, hk _ _ hp e, q⟩

inductive IterIs (K : HM) : Obj → List PyData → Prop
  | list {o : Obj} {l : Addr} {i : Nat} {ol : Obj} {vs : Array Value} {m : Nat} {ds : List PyData} : o.cls = .type "list_iterator" → o.data = .fields #[.ref l, .int i 0] → K l = some ol → ol.cls = .type "list" → ol.data = .seq vs m → RepAll K (vs.toList.drop i) ds → IterIs K o ds
  | range (x : Int) (left : Nat) (step : Int) : IterIs K { cls := .type "range_iterator", data := .fields #[rawInt x, rawInt left, rawInt step] } ((List.range left).map fun k : Nat => .int (x + k * step))

theorem IterIs.mono {K K' : HM} (h : HM.le K K') {o : Obj} {ds : List PyData} (x : IterIs K o ds) : IterIs K' o ds := by
  cases x with
  | list a b c d e f => exact .list a b (h _ _ c) d e (f.mono h)
  | range => exact .range ..
theorem IterIs.kind {K : HM} {o : Obj} {ds : List PyData} (x : IterIs K o ds) : ∃ T, o.cls = .type T ∧ (T = "list_iterator" ∨ T = "range_iterator") ∧ ∃ vs, o.data = .fields vs := by
  cases x with
  | list a b c d e f => exact ⟨_, a, .inl rfl, _, b⟩
  | range => exact ⟨_, rfl, .inr rfl, _, rfl⟩

section
variable {C : Cx} {n : Nat} {sc : Scope} {ρ : PEnv} {A : Around} {K Y : HM} {s : Shared} {E : Value → Shared → Prop}

theorem IterIs.next {it : Addr} {o : Obj} {d : PyData} {ds : List PyData} {Q : Option Value → Shared → Prop} (x : IterIs K o (d :: ds)) (I : Inv C K Y s) (hy : Y it = some o)
    (k : ∀ v o' s', Inv C K (Y.set it o') s' → Rep K v d → IterIs K o' ds → Heap.ExtBut it s.heap s'.heap → Q (some v) s') : wpAny C.md A (pyNext (.ref it)) Q E s := by
  generalize hds : d :: ds = dds at x
  obtain ⟨o₁, ho₁, se⟩ := I.y _ _ hy
  cases x with
  | @list _ l i ol vs m _ hc hd hk hlc hld r =>
    subst hds
    cases hr : vs.toList.drop i with
    | nil => rw [hr] at r; cases r
    | cons v rest =>
      rw [hr] at r
      cases r with
      | cons rv rr =>
        have hv : vs.toList[i]? = some v := by
          have := congrArg (fun l => l[0]?) hr
          simpa using this
        have hrest : vs.toList.drop (i + 1) = rest := by
          rw [← List.drop_drop, hr]; rfl
        refine wpAny_pyNext_list_item ⟨o₁, ho₁, se.cls.trans hc, se.dat.trans hd⟩ ⟨ol, I.k _ _ hk, hlc, m, hld⟩ (x := v) (by simpa using hv) fun h' hit hs => ?_
        obtain ⟨o₂, ho₂, hc₂, hd₂⟩ := hit
        exact k v o₂ _ (I.upd s.toks hy hs.extBut ho₂) rv (.list hc₂ hd₂ hk hlc hld (by rw [hrest]; exact rr)) hs.extBut
  | range x left step =>
    cases left with
    | zero => simp at hds
    | succ left =>
      rw [List.range_succ_eq_map, List.map_cons, List.map_map] at hds
      injection hds with h1 h2
      have e := se.eq (by simp)
      subst e
      refine wpAny_pyNext_range_item ho₁ (by omega) fun h' hit hs => ?_
      have h3 : IterIs K { cls := .type "range_iterator", data := .fields #[rawInt (x + step), rawInt (((left + 1 : Nat) : Int) - 1), rawInt step] } ds := by
        have e1 : (((left + 1 : Nat) : Int) - 1) = (left : Int) := by omega
        have e2 : ds = (List.range left).map fun k : Nat => .int ((x + step) + k * step) := by
          rw [h2]
          refine List.map_congr_left fun k _ => ?_
          show PyData.int (x + ((k + 1 : Nat) : Int) * step) = PyData.int (x + step + (k : Int) * step)
          congr 1
          rw [Int.natCast_add, Int.add_mul]; omega
        rw [e1, e2]; exact .range ..
      refine k _ _ _ (I.upd (s.toks + 1) hy hs.extBut hit) ?_ h3 hs.extBut
      rw [h1, show (x + ((0 : Nat) : Int) * step) = x by simp]; exact .int _ _

theorem IterIs.done {it : Addr} {o : Obj} {Q : Option Value → Shared → Prop} (x : IterIs K o []) (a : A.handled = none) (I : Inv C K Y s) (hy : Y it = some o)
    (k : ∀ s', Inv C K (Y.del it) s' → Heap.ExtBut it s.heap s'.heap → Q none s') : wpAny C.md A (pyNext (.ref it)) Q E s := by
  generalize hds : ([] : List PyData) = dds at x
  obtain ⟨o₁, ho₁, se⟩ := I.y _ _ hy
  cases x with
  | @list _ l i ol vs m _ hc hd hk hlc hld r =>
    subst hds
    cases hr : vs.toList.drop i with
    | cons v rest => rw [hr] at r; cases r
    | nil =>
      have hv : vs[i]? = none := by
        have h1 : vs.toList.length ≤ i := List.drop_eq_nil_iff.mp hr
        exact Array.getElem?_eq_none (by simpa using h1)
      exact wpAny_pyNext_list_end a ⟨o₁, ho₁, se.cls.trans hc, se.dat.trans hd⟩ ⟨ol, I.k _ _ hk, hlc, m, hld⟩ hv fun h' he => k _ (I.drop s.toks hy he) he
  | range x left step =>
    cases left with
    | succ left => simp [List.range_succ_eq_map] at hds
    | zero =>
      have e := se.eq (by simp)
      subst e
      exact wpAny_pyNext_range_end a ho₁ (by simp) fun h' he => k _ (I.drop s.toks hy he) he

theorem letOwned_skip {M : Model} {target : Expr} {it : Addr} {o : Obj} {v : Value} {vs : Array Value} {T : String} {Q : Unit → Shared → Prop} (ho : s.heap.get? it = some o) (hc : o.cls = .type T) (hT : T = "list_iterator" ∨ T = "range_iterator") (hd : o.data = .fields vs) (h : Q () s) :
    wpAny M A (letOwnedTupleGo target (.ref it) v) Q E s := by
  have hno : (["enumerate", "zip", "dict_itemiterator", "dict_reverseitemiterator", "odict_iterator", "itertools.zip_longest", "itertools.pairwise"].contains T) = false := by rcases hT with rfl | rfl <;> decide
  have aux : wpAny M A (do
      let o ← load it
      match o.cls, o.data with
      | .type n, .fields vs' =>
        if ["enumerate", "zip", "dict_itemiterator", "dict_reverseitemiterator", "odict_iterator", "itertools.zip_longest", "itertools.pairwise"].contains n && vs'[0]? == some (rawInt 0) then (pure () : Sem Unit) else pure ()
      | _, _ => pure ()) Q E s := by
    refine wpAny_bind (wpAny_load ho ?_)
    rw [hc, hd]
    simp only [hno, Bool.false_and, Bool.false_eq_true, if_false]
    exact wpAny_pure h
  unfold letOwnedTupleGo
  split
  · cases v with
    | ref a =>
      refine wpAny_bind (wpAny_load ho ?_)
      rw [hc, hd]
      simp only [hno, Bool.false_and, Bool.false_eq_true, if_false]
      exact wpAny_pure h
    | _ => exact wpAny_pure h
  · cases v with
    | ref a =>
      refine wpAny_bind (wpAny_load ho ?_)
      rw [hc, hd]
      simp only [hno, Bool.false_and, Bool.false_eq_true, if_false]
      exact wpAny_pure h
    | _ => exact wpAny_pure h
  · exact wpAny_pure h
end

def As (C : Cx) (n : Nat) (sc : Scope) (ρ : PEnv) (t : Expr) (d : PyData) (ρ' : PEnv) : Prop :=
  ∀ (A : Around) (K M X : HM) (env : Env) (s : Shared) (E : Value → Shared → Prop) (v : Value), AOk n A → EnvOk K M sc env ρ → Inv C K (M.join X) s → Disj M X → Rep K v d →
    wpAny C.md A (assign t env v) (fun _ s' => ∃ M', Inv C K (M'.join X) s' ∧ Disj M' X ∧ EnvOk K M' sc env ρ') E s

def Sto (sc : Scope) (x : Str) : Prop := sc.names.lookup x = some .local ∨ sc.names.lookup x = some .cell

section
variable {C : Cx} {n : Nat} {sc : Scope} {ρ : PEnv}
theorem As.name {x : Str} {pos : Pos} {d : PyData} (hx : Sto sc x) : As C n sc ρ (.Name x pos) d ((x, .val d) :: ρ) := by
  intro A K M X env s E v a O I D r
  exact wpAny_assign_Name (O.store (pv := .val d) I D hx r fun s' M' I' D' O' => ⟨M', I', D', O'⟩)

inductive Nms (sc : Scope) : List Expr → List PyData → PEnv → PEnv → Prop
  | nil {ρ₀ : PEnv} : Nms sc [] [] ρ₀ ρ₀
  | cons {x : Str} {pos : Pos} {es : List Expr} {d : PyData} {ds : List PyData} {ρ₀ ρ' : PEnv} : Sto sc x → Nms sc es ds ((x, .val d) :: ρ₀) ρ' → Nms sc (.Name x pos :: es) (d :: ds) ρ₀ ρ'

theorem Nms.length {es : List Expr} {ds : List PyData} {ρ ρ' : PEnv} (h : Nms sc es ds ρ ρ') (env : Env) : (assignEach es env).length = ds.length := by
  induction h with
  | nil => rfl
  | cons _ _ ih => simpa [assignEach] using ih
theorem Nms.noStar {es : List Expr} {ds : List PyData} {ρ ρ' : PEnv} (h : Nms sc es ds ρ ρ') (env : Env) : (assignEach es env).findIdx? (·.1) = none := by
  induction h with
  | nil => rfl
  | cons _ _ ih => simp [assignEach, List.findIdx?_cons, ih]
theorem Nms.run {es : List Expr} {ds : List PyData} {ρ ρ' : PEnv} (h : Nms sc es ds ρ ρ') : ∀ {A : Around} {K M X : HM} {env : Env} {s : Shared} {E : Value → Shared → Prop} {vs : List Value} {Q : Unit → Shared → Prop}, EnvOk K M sc env ρ → Inv C K (M.join X) s → Disj M X → RepAll K vs ds →
    (∀ s' M', Inv C K (M'.join X) s' → Disj M' X → EnvOk K M' sc env ρ' → Q () s') → wpAny C.md A (assignInOrder ((assignEach es env).map (·.2)) vs) Q E s := by
  induction h with
  | nil => intro A K M X env s E vs Q O I D r k; cases r; exact wpAny_pure (k s M I D O)
  | @cons x pos es d ds ρ ρ' hx _ ih =>
    intro A K M X env s E vs Q O I D r k
    cases r with
    | cons rv rr =>
      show wpAny C.md A (assignInOrder (assign (.Name x pos) env :: (assignEach es env).map (·.2)) (_ :: _)) Q E s
      rw [assignInOrder]
      exact wpAny_bind (wpAny_holding (wpAny_assign_Name (O.store (pv := .val d) I D hx rv fun s' M' I' D' O' => ih O' I' D' rr k)))

theorem As.tuple {es : List Expr} {ds : List PyData} {ρ' : PEnv} {k : Nat} {pos : Pos} (h : Nms sc es ds ρ ρ') : As C n sc ρ (.Tuple es k pos) (.tuple ds) ρ' := by
  intro A K M X env s E v a O I D r
  obtain ⟨t, vs, rfl, ht, q⟩ := r.isTup I
  have hsz : vs.size = ds.length := by have := q.length; simpa using this
  refine assign_Tuple_tuple a.h ht ((h.length env).trans hsz.symm) (h.noStar env) fun h' he => ?_
  have J : Inv C K (M.join X) { s with heap := h' } := I.ext s.toks fun b o e => he b o (Nat.ne_of_lt (Heap.lt_size e)) e
  exact h.run O J D q fun s' M' I' D' O' => ⟨M', I', D', O'⟩

theorem Es.assignT {t : List Expr} {k : Nat} {tpos pos : Pos} {e : Expr} {ds : List PyData} {ρ' : PEnv} (h : Ev C n sc ρ e (.tuple ds)) (ht : Nms sc t ds ρ ρ')
    (hs : ∀ env : Env, swapsWithSole [.Tuple t k tpos] e pos.line env = pure false := by intro _; rfl) (hw : ∀ env : Env, swappedStores [.Tuple t k tpos] e env = pure none := by intro _; rfl) :
    Es C n sc ρ (.Assign [.Tuple t k tpos] e pos) (.next ρ') := by
  intro A K M X env s E a O I D
  refine Assign_Tuple (h.use a (O.rdX X) I fun v s₁ K₁ l₁ I₁ r₁ R₁ => ?_) (hs env) (hw env)
  exact wpAny_mono (As.tuple (k := k) (pos := tpos) (n := n) ht A K₁ M X env s₁ E v a (O.monoK l₁) I₁ D r₁) (fun _ s' ⟨M', I', D', O'⟩ => ⟨K₁, M', l₁, I', D', rfl, O'⟩) fun _ _ x => x
end

inductive ForB (C : Cx) (n : Nat) (sc : Scope) (t : Expr) (body : List Stmt) : PEnv → List PyData → PEnv → Prop
  | nil {ρ} : ForB C n sc t body ρ [] ρ
  | cons {ρ ρ₁ ρ₂ ρ' d ds} : As C n sc ρ t d ρ₁ → Ex C n sc ρ₁ body (.next ρ₂) → ForB C n sc t body ρ₂ ds ρ' → ForB C n sc t body ρ (d :: ds) ρ'

def EvI (C : Cx) (n : Nat) (sc : Scope) (ρ : PEnv) (e : Expr) (ds : List PyData) : Prop :=
  ∀ (A : Around) (K Y : HM) (env : Env) (s : Shared) (E : Value → Shared → Prop) (Q : Value → Shared → Prop), AOk n A → EnvRd K Y sc env ρ → Inv C K Y s →
    (∀ it o s' K', HM.le K K' → Y it = none → K' it = none → Inv C K' (Y.set it o) s' → IterIs K' o ds → Q (.ref it) s') → wpAny C.md A (eval e env) (fun x s₁ => wpAny C.md A (pyIter x) Q E s₁) E s

section
variable {C : Cx} {n : Nat} {sc : Scope} {ρ : PEnv}
theorem Inv.joinDel {K M X : HM} {s : Shared} {it : Addr} (D : Disj M X) (hM : M it = none) (I : Inv C K ((M.join X).del it) s) : Inv C K (M.join (X.del it)) s := by
  refine I.less fun b o e => ?_
  rcases HM.join_some e with e | ⟨e0, e⟩
  · have q : b ≠ it := fun q => by rw [q, hM] at e; cases e
    rw [HM.del_ne _ q]; exact HM.join_left e
  · have q : b ≠ it := fun q => by rw [q, HM.del_self] at e; cases e
    rw [HM.del_ne _ q] at e ⊢; rw [HM.join_right e0]; exact e

theorem Disj.leX {M X X' : HM} (D : Disj M X) (h : HM.le X' X) : Disj M X' := fun a o e => by
  cases q : X' a with
  | none => rfl
  | some o' => have := D a o e; rw [h _ _ q] at this; cases this

theorem ForB.run {t : Expr} {body : List Stmt} {ρ' : PEnv} {ds : List PyData} (h : ForB C n sc t body ρ ds ρ') : ∀ {A : Around} {K M X : HM} {env : Env} {s : Shared} {R : Result → Shared → Prop} {it : Addr} {o : Obj}, AOk n A → EnvOk K M sc env ρ → Inv C K (M.join X) s → Disj M X →
    X it = some o → M it = none → IterIs K o ds → (∀ s' K' M', HM.le K K' → Inv C K' (M'.join (X.del it)) s' → Disj M' (X.del it) → EnvOk K' M' sc env ρ' → R (.ok .next) s') →
    codeAny C.md A (.forLoop t (.ref it) body [] env) R s := by
  induction h with
  | @nil ρ =>
    intro A K M X env s R it o a O I D hX hM hi k
    refine codeAny_of_tree ?_
    show wpAny C.md A ((forTurn t (.ref it) body [] env).onRaise (fun x => do noteFrame x env; theTreesLotGoes x)) _ _ s
    refine wpAny_noted ?_
    simp only [forTurn]
    refine wpAny_bind (wpAny_standAt (wpAny_bind (wpAny_onRaise (hi.done a.h I ((HM.join_right hM).trans hX) fun s' I' _ => ?_))))
    refine wpAny_pure ⟨rfl, codeAny_block (wpAny_execs_nil ?_)⟩
    exact k s' K M (HM.le.refl _) (I'.joinDel D hM) (D.leX (HM.del_le X it)) O
  | @cons ρ ρ₁ ρ₂ ρ' d ds hA hB _ ih =>
    intro A K M X env s R it o a O I D hX hM hi k
    refine codeAny_of_tree ?_
    show wpAny C.md A ((forTurn t (.ref it) body [] env).onRaise (fun x => do noteFrame x env; theTreesLotGoes x)) _ _ s
    refine wpAny_noted ?_
    simp only [forTurn]
    refine wpAny_bind (wpAny_standAt (wpAny_bind (wpAny_onRaise (hi.next I ((HM.join_right hM).trans hX) fun v o' s₁ I₁ rv hi₁ _ => ?_))))
    obtain ⟨T, hc, hT, vs, hd⟩ := hi₁.kind
    rw [HM.join_set_right hM] at I₁
    have hX₁ : (X.set it o') it = some o' := HM.set_self ..
    have D₁ : Disj M (X.set it o') := fun b ob e => by
      have q : b ≠ it := fun q => by rw [q, hM] at e; cases e
      rw [HM.set_ne _ _ q]; exact D b ob e
    obtain ⟨o₂, ho₂, se⟩ := I₁.y it o' ((HM.join_right hM).trans hX₁)
    refine wpAny_bind (letOwned_skip ho₂ (se.cls.trans hc) hT (se.dat.trans hd) ?_)
    refine wpAny_bind (wpAny_mono (hA A K M (X.set it o') env s₁ _ v a O I₁ D₁ rv) (fun _ s₂ p => ?_) fun _ _ x => x)
    obtain ⟨M₂, I₂, D₂, O₂⟩ := p
    refine wpAny_bind (wpAny_mono (hB A K M₂ (X.set it o') env s₂ _ a O₂ I₂ D₂) (fun f s₃ p => ?_) fun _ _ x => x)
    obtain ⟨K₃, M₃, l₃, I₃, D₃, rfl, O₃⟩ := p
    have hM₃ : M₃ it = none := by
      cases q : M₃ it with
      | none => rfl
      | some ob => have := D₃ _ _ q; rw [hX₁] at this; cases this
    have hdel : ∀ b, (X.set it o').del it b = X.del it b := fun b => by
      by_cases q : b = it
      · rw [q, HM.del_self, HM.del_self]
      · rw [HM.del_ne _ q, HM.del_ne _ q, HM.set_ne _ _ q]
    refine wpAny_pure ⟨rfl, ih a O₃ I₃ D₃ hX₁ hM₃ (hi₁.mono l₃) fun s' K' M' l' I' D' O' => ?_⟩
    rw [funext hdel] at I' D'
    exact k s' K' M' (l₃.trans l') I' D' O'

theorem Es.for {t iter : Expr} {body : List Stmt} {pos : Pos} {ds : List PyData} {ρ' : PEnv} (hi : EvI C n sc ρ iter ds) (h : ForB C n sc t body ρ ds ρ')
    (hs : ∀ (env : Env) (x : Value), foldedSetIterable iter env x = pure x := by intro _ _; rfl) : Es C n sc ρ (.For t iter body [] pos) (.next ρ') := by
  intro A K M X env s E a O I D
  refine wpAny_For (hi A K (M.join X) env s E _ a (O.rdX X) I fun it o s₂ K₂ l₂ hY hK I₂ hio => ?_) (hs env)
  have hM : M it = none := by
    cases q : M it with
    | none => rfl
    | some ob => rw [HM.join_left q] at hY; cases hY
  have hX : X it = none := by rw [HM.join_right hM] at hY; exact hY
  rw [HM.join_set_right hM] at I₂
  have D₂ : Disj M (X.set it o) := fun b ob e => by
    have q : b ≠ it := fun q => by rw [q, hM] at e; cases e
    rw [HM.set_ne _ _ q]; exact D b ob e
  have hdel : ∀ b, (X.set it o).del it b = X b := fun b => by
    by_cases q : b = it
    · rw [q, HM.del_self, hX]
    · rw [HM.del_ne _ q, HM.set_ne _ _ q]
  refine h.run a (O.monoK l₂) I₂ D₂ (HM.set_self ..) hM hio fun s' K' M' l' I' D' O' => ?_
  rw [funext hdel] at I' D'
  exact ⟨K', M', l₂.trans l', I', D', rfl, O'⟩

theorem EvI.list {e : Expr} {ds : List PyData} (h : Ev C n sc ρ e (.list ds)) : EvI C n sc ρ e ds := by
  intro A K Y env s E Q a R I k
  refine h.use a R I fun v s₁ K₁ l₁ I₁ r₁ R₁ => ?_
  obtain ⟨l, o, vs, m, rfl, hk, hc, hd, q⟩ := r₁.listInv
  refine wpAny_pyIter_list ⟨o, I₁.k _ _ hk, hc, m, hd⟩ ?_
  have hf := Inv.none_of_size (Nat.le_refl s₁.heap.objs.size)
  exact k _ _ _ K₁ l₁ (I₁.freshY hf) (I₁.freshK hf) (I₁.allocY s₁.toks (fun _ _ e => Heap.get?_push_of_some _ e) hf (Heap.get?_push_size _ rfl)) (.list rfl rfl hk hc hd (by simpa using q))
end
end Sq
end

section
set_option autoImplicit false
set_option linter.unusedVariables false
open PySem PyProof.Rows
namespace Sq

def rangeD (a b c : Int) : List PyData := (List.range (Builtin.Range.rangeSize a b c).toNat).map fun k : Nat => .int (a + k * c)

theorem rangeSize_nonneg (a b c : Int) (hc : 1 ≤ c) : 0 ≤ Builtin.Range.rangeSize a b c := by
  unfold Builtin.Range.rangeSize
  rw [if_pos (by omega)]
  split
  · have : 0 ≤ (b - a - 1) / c := Int.ediv_nonneg (by omega) (by omega)
    omega
  · omega
theorem rangeSize_le (a b c : Int) (hc : 1 ≤ c) : Builtin.Range.rangeSize a b c ≤ (b - a).toNat := by
  unfold Builtin.Range.rangeSize
  rw [if_pos (by omega)]
  split
  · have h1 : (b - a - 1) / c ≤ b - a - 1 := Int.ediv_le_self _ (by omega)
    omega
  · omega

theorem range_small {a b c : Int} (ha : -(2 ^ 40) ≤ a) (ha' : a ≤ 2 ^ 40) (hb : -(2 ^ 40) ≤ b) (hb' : b ≤ 2 ^ 40) (hc : 1 ≤ c) (hc' : c ≤ 2 ^ 20) : Builtin.Range.small a b c = true := by
  have h1 := rangeSize_nonneg a b c hc
  have h2 := rangeSize_le a b c hc
  unfold Builtin.Range.small Builtin.Range.rangeFitsLong
  rw [if_pos (by omega)]
  simp only [Bool.and_eq_true, Bool.or_eq_true, decide_eq_true_eq, beq_iff_eq]
  refine ⟨⟨⟨⟨?_, ?_⟩, ?_⟩, ?_⟩, .inr ?_⟩ <;> (constructor <;> omega)

section
variable {C : Cx} {n : Nat} {sc : Scope} {ρ : PEnv}

theorem range_iter {A : Around} {K Y : HM} {s : Shared} {E : Value → Shared → Prop} {a b c : Int} {t u v : Tok} {Q : Value → Shared → Prop} (tk : Nat) (I : Inv C K Y s) (hsm : Builtin.Range.small a b c = true) (hc : 1 ≤ c)
    (k : ∀ it o s', Y it = none → K it = none → Inv C K (Y.set it o) s' → IterIs K o (rangeD a b c) → Q (.ref it) s') :
    wpAny C.md A (pyIter (.ref s.heap.objs.size)) Q E { s with heap := s.heap.push { cls := .type "range", data := .fields #[.int a t, .int b u, .int c v] }, toks := tk } := by
  have J := I.ext (h' := s.heap.push { cls := .type "range", data := .fields #[.int a t, .int b u, .int c v] }) tk fun _ _ e => Heap.get?_push_of_some _ e
  refine wpAny_pyIter_range (IsRange.new ..) hsm ?_
  have hf := Inv.none_of_size (Nat.le_refl (s.heap.push { cls := .type "range", data := .fields #[.int a t, .int b u, .int c v] }).objs.size)
  have hn := rangeSize_nonneg a b c hc
  refine k _ _ _ (J.freshY hf) (J.freshK hf) (J.allocY tk (fun _ _ e => Heap.get?_push_of_some _ e) hf (Heap.get?_push_size _ rfl)) ?_
  have e : Builtin.Range.rangeSize a b c = (((Builtin.Range.rangeSize a b c).toNat : Nat) : Int) := by omega
  rw [e]; exact .range ..

theorem EvI.range3 {f : Str} {pf pos : Pos} {e1 e2 e3 : Expr} {a b c : Int} (hg : GlobV C f (.type "range")) (hk : sc.names.lookup f = some .globalImplicit) (ha : EvL C n sc ρ [e1, e2, e3] [.int a, .int b, .int c])
    (h1 : -(2 ^ 40) ≤ a) (h2 : a ≤ 2 ^ 40) (h3 : -(2 ^ 40) ≤ b) (h4 : b ≤ 2 ^ 40) (h5 : 1 ≤ c) (h6 : c ≤ 2 ^ 20) (hd : (f == ("__debug__" : Str)) = false := by decide) :
    EvI C n sc ρ (.Call (.Name f pf) [e1, e2, e3] [] pos) (rangeD a b c) := by
  intro A K Y env s E Q ok R I k
  refine call_name hg hk R I hd (ha.callWith (List.cons_ne_nil _ _) (.type _) [] ok R I fun vs s' K' l I' q => ?_)
  cases q with | cons q1 q => cases q with | cons q2 q => cases q with | cons q3 q =>
  cases q; cases q1; cases q2; cases q3
  refine call_range_3 (by omega) (range_iter s'.toks I' (range_small h1 h2 h3 h4 h5 h6) h5 fun it o s₂ hy hk' I₂ hi => k it o s₂ K' l hy hk' I₂ hi) (.inl (PyProof.noPylong_small (by omega)))
theorem EvI.range2 {f : Str} {pf pos : Pos} {e1 e2 : Expr} {a b : Int} (hg : GlobV C f (.type "range")) (hk : sc.names.lookup f = some .globalImplicit) (ha : EvL C n sc ρ [e1, e2] [.int a, .int b])
    (h1 : -(2 ^ 40) ≤ a) (h2 : a ≤ 2 ^ 40) (h3 : -(2 ^ 40) ≤ b) (h4 : b ≤ 2 ^ 40) (hd : (f == ("__debug__" : Str)) = false := by decide) :
    EvI C n sc ρ (.Call (.Name f pf) [e1, e2] [] pos) (rangeD a b 1) := by
  intro A K Y env s E Q ok R I k
  refine call_name hg hk R I hd (ha.callWith (List.cons_ne_nil _ _) (.type _) [] ok R I fun vs s' K' l I' q => ?_)
  cases q with | cons q1 q => cases q with | cons q2 q =>
  cases q; cases q1; cases q2
  exact call_range_2 (range_iter _ I' (range_small h1 h2 h3 h4 (by decide) (by decide)) (by decide) fun it o s₂ hy hk' I₂ hi => k it o s₂ K' l hy hk' I₂ hi)
theorem EvI.range1 {f : Str} {pf pos : Pos} {e1 : Expr} {b : Int} (hg : GlobV C f (.type "range")) (hk : sc.names.lookup f = some .globalImplicit) (ha : EvL C n sc ρ [e1] [.int b])
    (h3 : -(2 ^ 40) ≤ b) (h4 : b ≤ 2 ^ 40) (hd : (f == ("__debug__" : Str)) = false := by decide) :
    EvI C n sc ρ (.Call (.Name f pf) [e1] [] pos) (rangeD 0 b 1) := by
  intro A K Y env s E Q ok R I k
  refine call_name hg hk R I hd (ha.callWith (List.cons_ne_nil _ _) (.type _) [] ok R I fun vs s' K' l I' q => ?_)
  cases q with | cons q1 q =>
  cases q; cases q1
  exact call_range_1 (range_iter _ I' (range_small (by decide) (by decide) h3 h4 (by decide) (by decide)) (by decide) fun it o s₂ hy hk' I₂ hi => k it o s₂ K' l hy hk' I₂ hi)
end

def intsTo (k : Nat) : List PyData := (List.range k).map fun i : Nat => .int i
theorem rangeD_one (a b : Int) : rangeD a b 1 = (List.range (b - a).toNat).map fun i : Nat => .int (a + i) := by
  unfold rangeD
  rw [rangeSize_one]
  have : (if a < b then b - a else 0).toNat = (b - a).toNat := by split <;> omega
  rw [this]
  refine List.map_congr_left fun i _ => ?_
  rw [Int.mul_one]
theorem rangeD_zero (b : Int) : rangeD 0 b 1 = intsTo b.toNat := by
  rw [rangeD_one, Int.sub_zero]
  refine List.map_congr_left fun i _ => ?_
  rw [Int.zero_add]
end Sq
end

section
set_option autoImplicit false
set_option linter.unusedVariables false
open PySem PyProof.Rows
namespace Sq

def relS (scope sc : Scope) : Scope :=
  { scope with names := scope.names.map fun (n, k) => if (k == .free && sc.kind == .function && sc.names.lookup n == some .cell) then (n, .cell) else (n, k) }
theorem relabel_eq (scope : Scope) (env : Env) : relabel scope env = relS scope env.scope := rfl

theorem EnvRd.storeLoc {C : Cx} {sc : Scope} {ρ : PEnv} {A : Around} {K Y : HM} {env : Env} {s : Shared} {E : Value → Shared → Prop} {x : Str} {v : Value} {d : PyData} {oL : Obj} {es : Array DictEntry} {ep : Nat} {Q : Unit → Shared → Prop}
    (R : EnvRd K Y sc env ρ) (I : Inv C K Y s) (hL : Y env.locals = some oL) (hLd : oL.data = .dict es ep) (hLk : StrKeys es) (hx : sc.names.lookup x = some .local) (r : Rep K v d)
    (k : ∀ s' o' es' ep', o'.data = .dict es' ep' → StrKeys es' → Inv C K (Y.set env.locals o') s' → EnvRd K (Y.set env.locals o') sc env ((x, .val d) :: ρ) → Q () s') : wpAny C.md A (storeName env x v) Q E s := by
  have hk : env.kindOf x = some .local := (R.kindOf x).trans hx
  obtain ⟨o', ho', se⟩ := I.y _ _ hL
  refine wpAny_storeName_local hk ⟨o', es, ep, ho', se.dat.trans hLd, hLk, fun _ => rfl⟩ (fun h' hn hs => ?_) (by rw [R.fk]; rfl)
  obtain ⟨o₁, es₁, ep₁, h1, h2, h3, h4⟩ := hn
  have h4 : ∀ z, nsFind es₁ z = if z = x then some v else nsFind es z := h4
  refine k _ o₁ es₁ ep₁ h2 h3 (I.upd (s.toks + 1) hL hs.extBut h1) ⟨R.scp, R.kind, R.gl, R.bi, fun y p e => ?_⟩
  have hva : ∀ y w, y ≠ x → VarAt Y env y w → VarAt (Y.set env.locals o₁) env y w := by
    intro y w hy
    rintro (⟨a, o, es', ep', b, c, d, e⟩ | ⟨a, c, o, b, d, e⟩)
    · rw [hL] at b; cases b
      rw [hLd] at c; cases c
      exact .inl ⟨a, o₁, es₁, ep₁, HM.set_self .., h2, h3, by rw [h4, if_neg hy]; exact e⟩
    · have hne : c ≠ env.locals := fun q => by subst q; rw [hL] at d; cases d; rw [hLd] at e; cases e
      exact .inr ⟨a, c, o, b, by rw [HM.set_ne _ _ hne]; exact d, e⟩
  by_cases q : y = x
  · subst q
    rw [lookup_cons_self] at e; cases e
    exact ⟨v, .inl ⟨hk, o₁, es₁, ep₁, HM.set_self .., h2, h3, by rw [h4]; simp⟩, r⟩
  · rw [lookup_cons_ne q] at e
    have V := R.vars y p e
    cases p with
    | val d => obtain ⟨w, a, b⟩ := V; exact ⟨w, hva y w q a, b⟩
    | own ds =>
      obtain ⟨a, o, vs, m, g1, g2, g3, g4, g5, g6⟩ := V
      have hne : a ≠ env.locals := fun q2 => by subst q2; rw [hL] at g2; cases g2; rw [hLd] at g5; cases g5
      exact ⟨a, o, vs, m, hva y _ q g1, by rw [HM.set_ne _ _ hne]; exact g2, g3, g4, g5, g6⟩

inductive TgtC (sc : Scope) (ρ : PEnv) : Expr → PyData → PEnv → Prop
  | name {x : Str} {pos : Pos} {d : PyData} : sc.names.lookup x = some .local → TgtC sc ρ (.Name x pos) d ((x, .val d) :: ρ)
  | two {x y : Str} {px py pos : Pos} {k : Nat} {d e : PyData} : sc.names.lookup x = some .local → sc.names.lookup y = some .local → TgtC sc ρ (.Tuple [.Name x px, .Name y py] k pos) (.tuple [d, e]) ((y, .val e) :: (x, .val d) :: ρ)

section
variable {C : Cx} {n : Nat} {sc : Scope} {ρ : PEnv}

theorem HM.set_set (Y : HM) (a : Addr) (o o' : Obj) : (Y.set a o).set a o' = Y.set a o' := by
  funext b
  by_cases q : b = a
  · subst q; rw [HM.set_self, HM.set_self]
  · rw [HM.set_ne _ _ q, HM.set_ne _ _ q, HM.set_ne _ _ q]

theorem TgtC.run {t : Expr} {d : PyData} {ρ' : PEnv} (h : TgtC sc ρ t d ρ') {A : Around} {K Y : HM} {env : Env} {s : Shared} {E : Value → Shared → Prop} {v : Value} {oL : Obj} {es : Array DictEntry} {ep : Nat} {Q : Unit → Shared → Prop}
    (ok : AOk n A) (R : EnvRd K Y sc env ρ) (I : Inv C K Y s) (hL : Y env.locals = some oL) (hLd : oL.data = .dict es ep) (hLk : StrKeys es) (r : Rep K v d)
    (k : ∀ s' o' es' ep', o'.data = .dict es' ep' → StrKeys es' → Inv C K (Y.set env.locals o') s' → EnvRd K (Y.set env.locals o') sc env ρ' → Q () s') : wpAny C.md A (assign t env v) Q E s := by
  cases h with
  | name hx => exact wpAny_assign_Name (R.storeLoc I hL hLd hLk hx r k)
  | two hx hy =>
    obtain ⟨a, vs, rfl, ht, q⟩ := r.isTup I
    have hsz : vs.size = 2 := by have := q.length; simpa using this
    refine assign_Tuple_tuple ok.h ht hsz.symm rfl fun h' he => ?_
    have J : Inv C K Y { s with heap := h' } := I.ext s.toks fun b o e => he b o (Nat.ne_of_lt (Heap.lt_size e)) e
    cases hv : vs.toList with
    | nil => rw [hv] at q; cases q
    | cons u us =>
      rw [hv] at q
      cases q with | cons q1 q => cases q with | cons q2 q =>
      cases q
      show wpAny C.md A (assignInOrder [assign (.Name _ _) env, assign (.Name _ _) env] [_, _]) Q E _
      rw [assignInOrder]
      refine wpAny_bind (wpAny_holding (wpAny_assign_Name (R.storeLoc J hL hLd hLk hx q1 fun s₁ o₁ es₁ ep₁ hd₁ hk₁ I₁ R₁ => ?_)))
      rw [assignInOrder]
      refine wpAny_bind (wpAny_holding (wpAny_assign_Name (R₁.storeLoc I₁ (HM.set_self ..) hd₁ hk₁ hy q2 fun s₂ o₂ es₂ ep₂ hd₂ hk₂ I₂ R₂ => ?_)))
      rw [HM.set_set] at I₂ R₂
      exact wpAny_pure (k s₂ o₂ es₂ ep₂ hd₂ hk₂ I₂ R₂)
end

inductive CompB (C : Cx) (n : Nat) (sc : Scope) (caps : PEnv) (t : Expr) (ifs : List Expr) (elt : Expr) : List PyData → List PyData → Prop
  | nil : CompB C n sc caps t ifs elt [] []
  | skip {d ds rs ρ' c} : TgtC sc caps t d ρ' → ifs = [c] → Tt C n sc ρ' c false → CompB C n sc caps t ifs elt ds rs → CompB C n sc caps t ifs elt (d :: ds) rs
  | take {d ds r rs ρ'} : TgtC sc caps t d ρ' → (ifs = [] ∨ ∃ c, ifs = [c] ∧ Tt C n sc ρ' c true) → Ev C n sc ρ' elt r → CompB C n sc caps t ifs elt ds rs → CompB C n sc caps t ifs elt (d :: ds) (r :: rs)

theorem CompB.len {C : Cx} {n : Nat} {sc : Scope} {caps : PEnv} {t : Expr} {ifs : List Expr} {elt : Expr} {ds rs : List PyData} (h : CompB C n sc caps t ifs elt ds rs) : rs.length ≤ ds.length := by
  induction h with
  | nil => exact Nat.le_refl _
  | skip _ _ _ _ ih => exact Nat.le_succ_of_le ih
  | take _ _ _ _ ih => exact Nat.succ_le_succ ih

abbrev plainL (vs : Array Value) (m : Nat) : Obj := { cls := .type "list", data := .seq vs m }

structure CompSt (C : Cx) (sc : Scope) (caps : PEnv) (env : Env) (it D : Addr) (K Y : HM) (s : Shared) (o : Obj) (ds : List PyData) (vs : Array Value) (rs : List PyData) : Prop where
  rd : EnvRd K Y sc env caps
  inv : Inv C K Y s
  hit : Y it = some o
  iter : IterIs K o ds
  hD : ∃ m, Y D = some (plainL vs m)
  rep : RepAll K vs.toList rs
  hL : ∃ oL es ep, Y env.locals = some oL ∧ oL.data = .dict es ep ∧ StrKeys es

section
variable {C : Cx} {n : Nat} {sc : Scope} {caps : PEnv}

theorem EnvRd.other {K Y : HM} {env : Env} {ρ : PEnv} {b : Addr} {o : Obj} {o₀ : Obj} (R : EnvRd K Y sc env ρ) (hb : Y b = some o₀) (hnd : ∀ es ep, o₀.data ≠ .dict es ep) (hnc : ∀ v, o₀.data ≠ .cell v) (hown : ∀ x ds, ρ.lookup x ≠ some (.own ds)) : EnvRd K (Y.set b o) sc env ρ := by
  refine ⟨R.scp, R.kind, R.gl, R.bi, fun y p e => ?_⟩
  have V := R.vars y p e
  cases p with
  | own ds => exact absurd e (hown y ds)
  | val d =>
    obtain ⟨w, a, r⟩ := V
    refine ⟨w, ?_, r⟩
    rcases a with ⟨a, o1, es', ep', b', c, d', e'⟩ | ⟨a, c, o1, b', d', e'⟩
    · have hne : env.locals ≠ b := fun q => by rw [q, hb] at b'; cases b'; exact hnd _ _ c
      exact .inl ⟨a, o1, es', ep', by rw [HM.set_ne _ _ hne]; exact b', c, d', e'⟩
    · have hne : c ≠ b := fun q => by rw [q, hb] at d'; cases d'; exact hnc _ e'
      exact .inr ⟨a, c, o1, b', by rw [HM.set_ne _ _ hne]; exact d', e'⟩

theorem Tt.ifs {ρ' : PEnv} {c : Expr} {b : Bool} {A : Around} {K Y : HM} {env : Env} {s : Shared} {E : Value → Shared → Prop} {Q : Bool → Shared → Prop} (h : Tt C n sc ρ' c b) (ok : AOk n A) (R : EnvRd K Y sc env ρ') (I : Inv C K Y s)
    (k : ∀ s' K', HM.le K K' → Inv C K' Y s' → Q b s') :
    wpAny C.md A (forIn [c] true fun c r => if r = true then do let ok ← isTrue c env (eval c env); pure (ForInStep.yield ok) else pure (ForInStep.yield r)) Q E s :=
  wpAny_tests_one (wpAny_mono (h A K Y env s E ok R I) (fun r s' ⟨e, K', l, I'⟩ => e ▸ k s' K' l I') fun _ _ x => x)

theorem TgtC.cap {sc : Scope} {ρ ρ' : PEnv} {t : Expr} {d : PyData} (h : TgtC sc ρ t d ρ') {y : Str} (hy : sc.names.lookup y = some .cell) : ρ'.lookup y = ρ.lookup y := by
  cases h with
  | @name x pos d hx =>
    have q : y ≠ x := fun q => by rw [q, hx] at hy; cases hy
    exact lookup_cons_ne q
  | @two x z px py pos k d e hx hz =>
    have q : y ≠ x := fun q => by rw [q, hx] at hy; cases hy
    have q2 : y ≠ z := fun q => by rw [q, hz] at hy; cases hy
    rw [lookup_cons_ne q2, lookup_cons_ne q]

def CapOk (sc : Scope) (caps : PEnv) : Prop := ∀ x pv, caps.lookup x = some pv → sc.names.lookup x = some .cell ∧ ∃ d, pv = .val d
theorem CapOk.noOwn {sc : Scope} {caps : PEnv} (h : CapOk sc caps) (x : Str) (ds : List PyData) : caps.lookup x ≠ some (.own ds) := fun e => by
  obtain ⟨_, d, q⟩ := h x _ e; cases q

theorem TgtC.back {sc : Scope} {caps ρ' : PEnv} {t : Expr} {d : PyData} (h : TgtC sc caps t d ρ') (hc : CapOk sc caps) {K Y : HM} {env : Env} (R : EnvRd K Y sc env ρ') : EnvRd K Y sc env caps :=
  ⟨R.scp, R.kind, R.gl, R.bi, fun y p e => R.vars y p ((h.cap (hc y p e).1).trans e)⟩

theorem CompB.run {t iter elt : Expr} {ifs : List Expr} {scope : Scope} {pos : Pos} {ds rs : List PyData} (hcaps : CapOk sc caps) (h : CompB C n sc caps t ifs elt ds rs) :
    ∀ {A : Around} {env : Env} {it D : Addr} {K Y : HM} {s : Shared} {o : Obj} {vs : Array Value} {rs₀ : List PyData} {R : Result → Shared → Prop}, AOk n A → CompSt C sc caps env it D K Y s o ds vs rs₀ → vs.size + ds.length ≤ sizeLine →
      (∀ s' K' Y' vs' m oL es ep, HM.le K K' → Inv C K' Y' s' → (∀ b ob, b ≠ it → b ≠ D → b ≠ env.locals → Y b = some ob → Y' b = some ob) → Y' D = some (plainL vs' m) → RepAll K' vs'.toList (rs₀ ++ rs) → Y' env.locals = some oL → oL.data = .dict es ep → StrKeys es → R (.ok .next) s') →
      codeAny C.md A (.compLoop (.ListComp elt [⟨t, iter, ifs, 0⟩] scope pos) 0 (.ref it) (.ref D) env) R s := by
  induction h with
  | nil =>
    intro A env it D K Y s o vs rs₀ R ok S hsz k
    obtain ⟨m, hD⟩ := S.hD
    obtain ⟨oL, es, ep, hL, hLd, hLk⟩ := S.hL
    refine codeAny_of_tree ?_
    show wpAny C.md A ((compTurn (.ListComp elt [⟨t, iter, ifs, 0⟩] scope pos) 0 (.ref it) (.ref D) env).onRaise (fun x => do noteFrame x env; theTreesLotGoes x)) _ _ s
    refine wpAny_noted ?_
    rw [compTurn_list]
    refine wpAny_bind (wpAny_standAt (wpAny_bind (S.iter.done ok.h S.inv S.hit fun s' I' _ => wpAny_pure ?_)))
    obtain ⟨vsf, hof⟩ : ∃ v, o.data = .fields v := let ⟨_, _, _, v, h⟩ := S.iter.kind; ⟨v, h⟩
    have h1 : D ≠ it := fun q => by rw [q, S.hit] at hD; cases hD; cases hof
    have h2 : env.locals ≠ it := fun q => by rw [q, S.hit] at hL; cases hL; rw [hof] at hLd; cases hLd
    refine k s' K (Y.del it) vs m oL es ep (HM.le.refl _) I' (fun b ob hb _ _ e => ?_) ?_ (by simpa using S.rep) ?_ hLd hLk
    · rw [HM.del_ne _ hb]; exact e
    · rw [HM.del_ne _ h1]; exact hD
    · rw [HM.del_ne _ h2]; exact hL
  | @skip d ds rs ρ' c hT hifs htt _ ih =>
    intro A env it D K Y s o vs rs₀ R ok S hsz k
    subst hifs
    obtain ⟨m, hD⟩ := S.hD
    obtain ⟨oL, es, ep, hL, hLd, hLk⟩ := S.hL
    obtain ⟨vsf, hof⟩ : ∃ v, o.data = .fields v := let ⟨_, _, _, v, h⟩ := S.iter.kind; ⟨v, h⟩
    have hDi : D ≠ it := fun q => by rw [q, S.hit] at hD; cases hD; cases hof
    have hLi : env.locals ≠ it := fun q => by rw [q, S.hit] at hL; cases hL; rw [hof] at hLd; cases hLd
    have hDL : D ≠ env.locals := fun q => by rw [q, hL] at hD; cases hD; cases hLd
    refine codeAny_of_tree ?_
    show wpAny C.md A ((compTurn (.ListComp elt [⟨t, iter, [c], 0⟩] scope pos) 0 (.ref it) (.ref D) env).onRaise (fun x => do noteFrame x env; theTreesLotGoes x)) _ _ s
    refine wpAny_noted ?_
    rw [compTurn_list]
    refine wpAny_bind (wpAny_standAt (wpAny_bind (S.iter.next S.inv S.hit fun v o₁ s₁ I₁ rv hi₁ _ => ?_)))
    have R₁ : EnvRd K (Y.set it o₁) sc env caps := S.rd.other S.hit (by intro es ep h; rw [hof] at h; cases h) (by intro v h; rw [hof] at h; cases h) hcaps.noOwn
    obtain ⟨T, hc, hTk, vs1, hd1⟩ := hi₁.kind
    obtain ⟨o₂, ho₂, se⟩ := I₁.y it o₁ (HM.set_self ..)
    refine wpAny_bind (letOwned_skip ho₂ (se.cls.trans hc) hTk (se.dat.trans hd1) ?_)
    refine wpAny_bind (hT.run ok R₁ I₁ ((HM.set_ne _ _ hLi).trans hL) hLd hLk rv fun s₂ oL₂ es₂ ep₂ hd₂ hk₂ I₂ R₂ => ?_)
    refine wpAny_bind (htt.ifs ok R₂ I₂ fun s₃ K₃ l₃ I₃ => ?_)
    simp only [Bool.false_eq_true, if_false]
    refine wpAny_pure ⟨rfl, ih ok ⟨(hT.back hcaps R₂).monoK l₃, I₃, ?_, hi₁.mono l₃, ⟨m, ?_⟩, S.rep.mono l₃, ⟨oL₂, es₂, ep₂, HM.set_self .., hd₂, hk₂⟩⟩ (by simp only [List.length_cons] at hsz; omega) fun s' K' Y' vs' m' oL' es' ep' l' I' hY' hD' r' hL' hd' hk' => ?_⟩
    · rw [HM.set_ne _ _ (Ne.symm hLi), HM.set_self]
    · rw [HM.set_ne _ _ hDL, HM.set_ne _ _ hDi]; exact hD
    · exact k s' K' Y' vs' m' oL' es' ep' (l₃.trans l') I' (fun b ob h1 h2 h3 e => hY' b ob h1 h2 h3 (by rw [HM.set_ne _ _ h3, HM.set_ne _ _ h1]; exact e)) hD' r' hL' hd' hk'
  | @take d ds r rs ρ' hT hifs helt _ ih =>
    intro A env it D K Y s o vs rs₀ R ok S hsz k
    obtain ⟨m, hD⟩ := S.hD
    obtain ⟨oL, es, ep, hL, hLd, hLk⟩ := S.hL
    obtain ⟨vsf, hof⟩ : ∃ v, o.data = .fields v := let ⟨_, _, _, v, h⟩ := S.iter.kind; ⟨v, h⟩
    have hDi : D ≠ it := fun q => by rw [q, S.hit] at hD; cases hD; cases hof
    have hLi : env.locals ≠ it := fun q => by rw [q, S.hit] at hL; cases hL; rw [hof] at hLd; cases hLd
    have hDL : D ≠ env.locals := fun q => by rw [q, hL] at hD; cases hD; cases hLd
    refine codeAny_of_tree ?_
    show wpAny C.md A ((compTurn (.ListComp elt [⟨t, iter, ifs, 0⟩] scope pos) 0 (.ref it) (.ref D) env).onRaise (fun x => do noteFrame x env; theTreesLotGoes x)) _ _ s
    refine wpAny_noted ?_
    rw [compTurn_list]
    refine wpAny_bind (wpAny_standAt (wpAny_bind (S.iter.next S.inv S.hit fun v o₁ s₁ I₁ rv hi₁ _ => ?_)))
    have R₁ : EnvRd K (Y.set it o₁) sc env caps := S.rd.other S.hit (by intro es ep h; rw [hof] at h; cases h) (by intro v h; rw [hof] at h; cases h) hcaps.noOwn
    obtain ⟨T, hc, hTk, vs1, hd1⟩ := hi₁.kind
    obtain ⟨o₂, ho₂, se⟩ := I₁.y it o₁ (HM.set_self ..)
    refine wpAny_bind (letOwned_skip ho₂ (se.cls.trans hc) hTk (se.dat.trans hd1) ?_)
    refine wpAny_bind (hT.run ok R₁ I₁ ((HM.set_ne _ _ hLi).trans hL) hLd hLk rv fun s₂ oL₂ es₂ ep₂ hd₂ hk₂ I₂ R₂ => ?_)

    have rest : ∀ s₃ K₃, HM.le K K₃ → Inv C K₃ ((Y.set it o₁).set env.locals oL₂) s₃ → wpAny C.md A (eval elt env) (fun x s₄ =>
        wpAny C.md A (call (.builtin "list.append") [.ref D, x]) (fun _ s₅ => codeAny C.md A (.compLoop (.ListComp elt [⟨t, iter, ifs, 0⟩] scope pos) 0 (.ref it) (.ref D) env) R s₅) (notedBy C.md A env fun e s' => R (.error e) s') s₄) (notedBy C.md A env fun e s' => R (.error e) s') s₃ := by
      intro s₃ K₃ l₃ I₃
      refine helt.use ok (R₂.monoK l₃) I₃ fun x s₄ K₄ l₄ I₄ r₄ R₄ => ?_
      have hD₄ : ((Y.set it o₁).set env.locals oL₂) D = some (plainL vs m) := by rw [HM.set_ne _ _ hDL, HM.set_ne _ _ hDi]; exact hD
      obtain ⟨oD, hoD, seD⟩ := I₄.y _ _ hD₄
      have eD := seD.eq (by simp)
      subst eD
      refine wpAny_list_append_plain ⟨m, hoD⟩ (fun h₅ hl₅ hs₅ => ?_) (by simp only [List.length_cons] at hsz; omega)
      obtain ⟨m₅, ho₅⟩ := hl₅
      have I₅ := I₄.upd s₄.toks hD₄ hs₅.extBut ho₅
      refine ih ok ⟨?_, I₅, ?_, (hi₁.mono l₃).mono l₄, ⟨m₅, HM.set_self ..⟩, ?_, ⟨oL₂, es₂, ep₂, ?_, hd₂, hk₂⟩⟩ (rs₀ := rs₀ ++ [r]) (by simp only [Array.size_push, List.length_cons] at hsz ⊢; omega) fun s' K' Y' vs' m' oL' es' ep' l' I' hY' hD' r' hL' hd' hk' => ?_
      · exact (hT.back hcaps R₄).other hD₄ (by intro es ep h; cases h) (by intro v h; cases h) hcaps.noOwn
      · rw [HM.set_ne _ _ (Ne.symm hDi), HM.set_ne _ _ (Ne.symm hLi), HM.set_self]
      · simpa using ((S.rep.mono l₃).mono l₄).append (.one r₄)
      · rw [HM.set_ne _ _ (Ne.symm hDL), HM.set_self]
      · refine k s' K' Y' vs' m' oL' es' ep' ((l₃.trans l₄).trans l') I' (fun b ob h1 h2 h3 e => hY' b ob h1 h2 h3 ?_) hD' (by simpa using r') hL' hd' hk'
        rw [HM.set_ne _ _ h2, HM.set_ne _ _ h3, HM.set_ne _ _ h1]; exact e
    have fin : ∀ s₃ K₃, HM.le K K₃ → Inv C K₃ ((Y.set it o₁).set env.locals oL₂) s₃ → wpAny C.md A (do
        if true = true then (do let _ ← call (.builtin "list.append") [.ref D, ← eval elt env])
        again (.compLoop (.ListComp elt [⟨t, iter, ifs, 0⟩] scope pos) 0 (.ref it) (.ref D) env)) (fun fin s' => match fin with | .done f => R (.ok f) s' | .again c' => c'.quiet = true ∧ codeAny C.md A c' R s') (notedBy C.md A env fun e s' => R (.error e) s') s₃ := by
      intro s₃ K₃ l₃ I₃
      rw [if_pos rfl]
      exact wpAny_bind (wpAny_bind (wpAny_mono (rest s₃ K₃ l₃ I₃) (fun x s₄ h₄ => wpAny_bind (wpAny_mono h₄ (fun _ s₅ h₅ => wpAny_pure (wpAny_pure ⟨rfl, h₅⟩)) fun _ _ h' => h')) fun _ _ h' => h'))
    rcases hifs with rfl | ⟨c, rfl, htt⟩
    · exact wpAny_bind (wpAny_tests_nil (fin s₂ K (HM.le.refl _) I₂))
    · exact wpAny_bind (htt.ifs ok R₂ I₂ fun s₃ K₃ l₃ I₃ => fin s₃ K₃ l₃ I₃)
end
end Sq
end

section
set_option autoImplicit false
set_option linter.unusedVariables false
open PySem PyProof.Rows
namespace Sq

section
variable {C : Cx} {n : Nat} {sc : Scope} {ρ : PEnv}

theorem IterIs.self {A : Around} {K Y : HM} {s : Shared} {E : Value → Shared → Prop} {it : Addr} {o : Obj} {ds : List PyData} {Q : Value → Shared → Prop} (x : IterIs K o ds) (I : Inv C K Y s) (hy : Y it = some o) (h : Q (.ref it) s) : wpAny C.md A (pyIter (.ref it)) Q E s := by
  obtain ⟨o₁, ho₁, se⟩ := I.y _ _ hy
  cases x with
  | list hc hd hk hlc hld r => exact wpAny_pyIter_listiter ⟨o₁, ho₁, se.cls.trans hc, se.dat.trans hd⟩ h
  | range x left step =>
    have e := se.eq (by simp)
    subst e
    exact wpAny_pyIter_rangeiter ho₁ h

theorem closureFor_ok {scope : Scope} {env : Env} (h : ∀ p ∈ scope.names, p.2 = .free → ∃ c, env.cells.lookup p.1 = some c) :
    ∃ cl, closureFor scope env = pure cl ∧ (∀ x c, cl.lookup x = some c → env.cells.lookup x = some c) ∧ ∀ p ∈ scope.names, p.2 = .free → (cl.lookup p.1).isSome = true := by
  have main : ∀ (names : List (Str × NameKind)) (acc : List (Str × Addr)), (∀ p ∈ names, p.2 = .free → ∃ c, env.cells.lookup p.1 = some c) → (∀ x c, acc.lookup x = some c → env.cells.lookup x = some c) →
      ∃ cl, (forIn names acc fun (p : Str × NameKind) cs => (if p.2 == .free then do let a ← cellOf env p.1; pure (ForInStep.yield ((p.1, a) :: cs)) else pure (ForInStep.yield cs) : Sem (ForInStep (List (Str × Addr))))) = pure cl ∧
        (∀ x c, cl.lookup x = some c → env.cells.lookup x = some c) ∧ (∀ x, (acc.lookup x).isSome = true → (cl.lookup x).isSome = true) ∧ ∀ p ∈ names, p.2 = .free → (cl.lookup p.1).isSome = true := by
    intro names
    induction names with
    | nil => intro acc _ ha; exact ⟨acc, rfl, ha, fun _ e => e, fun _ hp => nomatch hp⟩
    | cons p names ih =>
      intro acc hp ha
      by_cases hf : p.2 = .free
      · obtain ⟨c, hc⟩ := hp p List.mem_cons_self hf
        obtain ⟨cl, h1, h2, h3, h4⟩ := ih ((p.1, c) :: acc) (fun q hq => hp q (List.mem_cons_of_mem _ hq)) (fun x c' e => by
          rw [List.lookup_cons] at e
          cases hb : x == p.1 with
          | true => rw [hb] at e; cases e; rw [beq_iff_eq.mp hb]; exact hc
          | false => rw [hb] at e; exact ha x c' e)
        refine ⟨cl, ?_, h2, fun x e => h3 x ?_, fun q hq hqf => ?_⟩
        · rw [List.forIn_cons]
          have : (p.2 == NameKind.free) = true := by simpa using hf
          simp only [this, if_true, cellOf, hc]
          exact h1
        · rw [List.lookup_cons]; split <;> simp_all
        · rcases List.mem_cons.mp hq with rfl | hq
          · exact h3 _ (by simp)
          · exact h4 q hq hqf
      · obtain ⟨cl, h1, h2, h3, h4⟩ := ih acc (fun q hq => hp q (List.mem_cons_of_mem _ hq)) ha
        refine ⟨cl, ?_, h2, h3, fun q hq hqf => ?_⟩
        · rw [List.forIn_cons]
          have : (p.2 == NameKind.free) = false := by simpa using hf
          simp only [this, Bool.false_eq_true, if_false]
          exact h1
        · rcases List.mem_cons.mp hq with rfl | hq
          · exact absurd hqf hf
          · exact h4 q hq hqf
  obtain ⟨cl, h1, h2, _, h4⟩ := main scope.names [] h (fun x c e => by simp at e)
  exact ⟨cl, by unfold closureFor; simpa using h1, h2, h4⟩

structure CompK (sc scope : Scope) (ρ caps : PEnv) : Prop where
  sees : ∀ x pv, caps.lookup x = some pv → ρ.lookup x = some pv
  kinds : ∀ x pv, caps.lookup x = some pv → sc.names.lookup x = some .cell ∧ scope.names.lookup x = some .free ∧ (relS scope sc).names.lookup x = some .cell ∧ ∃ d, pv = .val d
  frees : ∀ p ∈ scope.names, p.2 = .free → (caps.lookup p.1).isSome = true
  cells : ∀ p ∈ scope.names, p.2 ≠ .cell
  locals : ∀ p ∈ scope.names, p.2 = .local → scope.names.lookup p.1 = some .local
  kind : scope.kind = .function

theorem EnvRd.cellOf {K Y : HM} {env : Env} {scope : Scope} {caps : PEnv} (R : EnvRd K Y sc env ρ) (k : CompK sc scope ρ caps) {x : Str} {pv : PV} (h : caps.lookup x = some pv) :
    ∃ d v c o, pv = .val d ∧ env.cells.lookup x = some c ∧ Y c = some o ∧ o.data = .cell (some v) ∧ Rep K v d := by
  obtain ⟨h1, h2, h3, d, rfl⟩ := k.kinds x _ h
  obtain ⟨v, V, r⟩ := R.vars x _ (k.sees x _ h)
  rcases V with ⟨a, _⟩ | ⟨a, c, o, b, e, g⟩
  · rw [R.kindOf, h1] at a; cases a
  · exact ⟨d, v, c, o, rfl, b, e, g, r⟩

theorem comp_run {elt t iter : Expr} {ifs : List Expr} {scope : Scope} {pos : Pos} {caps : PEnv} {ds rs : List PyData} (hi : EvI C n sc ρ iter ds) (k : CompK sc scope ρ caps) (hb : CompB C n (relS scope sc) caps t ifs elt ds rs) (hsz : ds.length ≤ sizeLine)
    (hs : ∀ (env : Env) (x : Value), foldedSetIterable iter env x = pure x) {use : Option (Value → Sem Unit)} {Q : Value → Shared → Prop} {A : Around} {K Y : HM} {env : Env} {s : Shared} {E : Value → Shared → Prop} {p : Pos} (ok : AOk n A) (R : EnvRd K Y sc env ρ) (I : Inv C K Y s)
    (fin : ∀ s' K' D L vs m oL es ep, HM.le K K' → Y D = none → Y L = none → D ≠ L → Inv C K' ((Y.set D (plainL vs m)).set L oL) s' → RepAll K' vs.toList rs → oL.data = .dict es ep → StrKeys es → compPost C.md A E use Q (.ref D) L (.ok .next) s') :
    wpAny C.md A (comprehension (.ListComp elt [⟨t, iter, ifs, 0⟩] scope pos) scope env p (newList []) false (eval iter env) use) Q E s := by
  obtain ⟨cl, hcl, hcl2, hcl3⟩ := closureFor_ok (scope := scope) (env := env) (fun q hq hf => by
    obtain ⟨pv, e⟩ := Option.isSome_iff_exists.mp (k.frees q hq hf)
    obtain ⟨_, _, c, _, _, h, _⟩ := R.cellOf k e
    exact ⟨c, h⟩)
  refine wpAny_comprehension_free rfl (hs env) hcl k.kind k.locals (hi A K Y env s E _ ok R I fun it o s₂ K₂ l₂ hY₂ hK₂ I₂ hio => ?_)
  have R₂ := R.monoK l₂
  have hf₂ := Inv.none_of_size (Nat.le_refl s₂.heap.objs.size)
  refine wpAny_newObj_type ?_ (by show _ ≤ _; decide)
  have I₃ := I₂.allocY (h' := s₂.heap.push (plainL #[] 0)) s₂.toks (fun _ _ e => Heap.get?_push_of_some _ e) hf₂ (Heap.get?_push_size _ rfl)
  have hitD : it ≠ s₂.heap.objs.size := fun q => by have := I₂.freshY hf₂; rw [← q, HM.set_self] at this; cases this
  have hYD : Y s₂.heap.objs.size = none := by have := I₂.freshY hf₂; rwa [HM.set_ne _ _ (Ne.symm hitD)] at this
  generalize hD : s₂.heap.objs.size = D at I₃ hitD hYD ⊢
  refine wpAny_newFunctionEnv k.cells (by intro y hy; cases hy) (fun h' hns hsb => ?_) k.kind
  have hf₃ := Inv.none_of_size (Nat.le_refl (s₂.heap.push (plainL #[] 0)).objs.size)
  have I₄ := I₃.allocY (h' := (s₂.heap.push (plainL #[] 0)).push { cls := .type "dict", data := .dict #[] }) s₂.toks (fun _ _ e => Heap.get?_push_of_some _ e) hf₃ (Heap.get?_push_size _ rfl)
  have hYL₃ := I₃.freshY hf₃
  obtain ⟨oL, es, ep, hoL, hLd, hLk, _⟩ := hns
  have I₅ := I₄.upd (s₂.toks + 0) (HM.set_self ..) hsb.extBut hoL
  rw [HM.set_set] at I₅
  have hL0 : (s₂.heap.push (plainL #[] 0)).objs.size = (s₂.heap.push { cls := .type "list", data := .seq ([] : List Value).toArray }).objs.size := rfl
  generalize hL : (s₂.heap.push (plainL #[] 0)).objs.size = L at I₅ hYL₃ hL0
  have hLD : L ≠ D := fun q => by rw [q, HM.set_self] at hYL₃; cases hYL₃
  have hLit : L ≠ it := fun q => by rw [HM.set_ne _ _ hLD, q, HM.set_self] at hYL₃; cases hYL₃
  have hYL : Y L = none := by rw [HM.set_ne _ _ hLD, HM.set_ne _ _ hLit] at hYL₃; exact hYL₃
  let env' : Env := { scope := relabel scope env, locals := L, globals := env.globals, cells := cl, qual := env.qual, func := none, code := env.code, frame := env.frame, builtins := env.builtins }
  have R' : EnvRd K₂ (((Y.set it o).set D (plainL #[] 0)).set L oL) (relS scope sc) env' caps := by
    refine ⟨by show relabel scope env = _; rw [relabel_eq, R.scp], k.kind, R.gl, R.bi, fun x pv e => ?_⟩
    obtain ⟨d, v, c, oc, rfl, hc, hyc, hdc, r⟩ := R₂.cellOf k e
    have hfree := (k.kinds x _ e).2.1
    have hsome := hcl3 _ (mem_of_lookup hfree) rfl
    obtain ⟨c', hc'⟩ := Option.isSome_iff_exists.mp hsome
    have := hcl2 x c' hc'
    rw [hc] at this; cases this
    have q1 : c ≠ it := fun q => by rw [q, hY₂] at hyc; cases hyc
    have q2 : c ≠ D := fun q => by rw [q, hYD] at hyc; cases hyc
    have q3 : c ≠ L := fun q => by rw [q, hYL] at hyc; cases hyc
    refine ⟨v, .inr ⟨?_, c, oc, hc', by rw [HM.set_ne _ _ q3, HM.set_ne _ _ q2, HM.set_ne _ _ q1]; exact hyc, hdc⟩, r⟩
    show (relabel scope env).names.lookup x = _
    rw [relabel_eq, R.scp]; exact (k.kinds x _ e).2.2.1
  have hcaps : CapOk (relS scope sc) caps := fun x pv e => ⟨(k.kinds x pv e).2.2.1, (k.kinds x pv e).2.2.2⟩
  have hit₅ : (((Y.set it o).set D (plainL #[] 0)).set L oL) it = some o := by rw [HM.set_ne _ _ (Ne.symm hLit), HM.set_ne _ _ hitD, HM.set_self]
  have S : CompSt C (relS scope sc) caps env' it D K₂ (((Y.set it o).set D (plainL #[] 0)).set L oL) _ o ds #[] [] :=
    ⟨R', I₅, hit₅, hio, ⟨0, by rw [HM.set_ne _ _ (Ne.symm hLD), HM.set_self]⟩, .nil, ⟨oL, es, ep, HM.set_self .., hLd, hLk⟩⟩
  have loop := CompB.run (iter := iter) (scope := scope) (pos := pos) hcaps hb (R := compPost C.md A E use Q (.ref D) L) ok S (by simpa using hsz) fun s' K' Y' vs' m oL' es' ep' l' I' hY' hD' r' hL' hd' hk' => by
    refine fin s' K' D L vs' m oL' es' ep' (l₂.trans l') hYD hYL (Ne.symm hLD) (I'.less fun b ob e => ?_) (by simpa using r') hd' hk'
    by_cases q1 : b = L
    · subst q1; rw [HM.set_self] at e; cases e; exact hL'
    · rw [HM.set_ne _ _ q1] at e
      by_cases q2 : b = D
      · subst q2; rw [HM.set_self] at e; cases e; exact hD'
      · rw [HM.set_ne _ _ q2] at e
        have q3 : b ≠ it := fun q => by rw [q, hY₂] at e; cases e
        exact hY' b ob q3 q2 q1 (by rw [HM.set_ne _ _ q1, HM.set_ne _ _ q2, HM.set_ne _ _ q3]; exact e)
  show codeAny C.md A (.compStart _ 0 (.ref it) (.ref _) _) _ _
  have e1 : s₂.heap.push { cls := .type "list", data := .seq ([] : List Value).toArray } = s₂.heap.push (plainL #[] 0) := rfl
  rw [← hL0]
  exact codeAny_compStart_list loop (hio.self I₅ hit₅ loop)

theorem EvN.comp {elt t iter : Expr} {ifs : List Expr} {scope : Scope} {pos : Pos} {caps : PEnv} {ds rs : List PyData} (hi : EvI C n sc ρ iter ds) (k : CompK sc scope ρ caps) (hb : CompB C n (relS scope sc) caps t ifs elt ds rs) (hsz : ds.length ≤ sizeLine)
    (hs : ∀ (env : Env) (x : Value), foldedSetIterable iter env x = pure x := by intro _ _; rfl) : EvN C n sc ρ (.ListComp elt [⟨t, iter, ifs, 0⟩] scope pos) rs := by
  intro A K Y env s E ok R I
  rw [eval_ListComp]
  refine comp_run hi k hb hsz hs ok R I fun s' K' D L vs m oL es ep l hYD hYL hDL I' r hd hk => ?_
  obtain ⟨o₁, ho₁, se⟩ := I'.y L oL (HM.set_self ..)
  refine ⟨_, ⟨o₁, es, ep, ho₁, se.dat.trans hd, hk, fun _ => rfl⟩, fun h' hsb => ?_⟩
  refine ⟨K', D, plainL vs m, vs, m, l, rfl, hYD, (I'.drop s'.toks (HM.set_self ..) hsb.extBut).less fun b ob e => ?_, rfl, ⟨rfl, rfl⟩, rfl, r⟩
  have q : b ≠ L := fun q => by rw [q, HM.set_ne _ _ (Ne.symm hDL), hYL] at e; cases e
  rw [HM.del_ne _ q, HM.set_ne _ _ q]; exact e

theorem EnvOk.addList {K K₁ M : HM} {env : Env} {b : Addr} {o : Obj} {vs : Array Value} {m : Nat} (O : EnvOk K M sc env ρ) (l₁ : HM.le K K₁) (hMb : M b = none) (hd : o.data = .seq vs m) :
    EnvOk K₁ (M.set b o) sc env ρ ∧ ∀ y es, ρ.lookup y = some (.own es) → ¬ VarAt (M.set b o) env y (.ref b) := by
  have hle : HM.le M (M.set b o) := HM.le_set hMb
  obtain ⟨oL, es, ep, hL, hLd, hLk⟩ := O.loc
  have hLb : env.locals ≠ b := fun q => by rw [q, hMb] at hL; cases hL
  have hva : ∀ y w, VarAt (M.set b o) env y w → VarAt M env y w := by
    intro y w
    rintro (⟨p, o1, es', ep', b', c', d, e⟩ | ⟨p, c', o1, b', d, e⟩)
    · rw [HM.set_ne _ _ hLb] at b'; exact .inl ⟨p, o1, es', ep', b', c', d, e⟩
    · have hne : c' ≠ b := fun q => by subst q; rw [HM.set_self] at d; cases d; rw [hd] at e; cases e
      rw [HM.set_ne _ _ hne] at d; exact .inr ⟨p, c', o1, b', d, e⟩
  refine ⟨⟨(O.rd.mono l₁ hle), ⟨oL, es, ep, hle _ _ hL, hLd, hLk⟩, fun y hy => ?_, O.inj, fun y z d1 d2 b' hne hy hz vy vz => O.own y z d1 d2 b' hne hy hz (hva _ _ vy) (hva _ _ vz)⟩, fun y es hy vy => ?_⟩
  · obtain ⟨c, o1, v', h1, h2, h3⟩ := O.cel y hy
    exact ⟨c, o1, v', h1, hle _ _ h2, h3⟩
  · obtain ⟨a2, o2, vs2, m2, h1, h2, _⟩ := O.rd.vars y _ hy
    have e := (hva _ _ vy).uniq h1
    cases e
    rw [hMb] at h2; cases h2

theorem Es.assignComp {x : Str} {pos' spos : Pos} {elt t iter : Expr} {ifs : List Expr} {scope : Scope} {pos : Pos} {caps : PEnv} {ds rs : List PyData} (hi : EvI C n sc ρ iter ds) (k : CompK sc scope ρ caps) (hb : CompB C n (relS scope sc) caps t ifs elt ds rs) (hsz : ds.length ≤ sizeLine)
    (hx : sc.names.lookup x = some .local) (hsw : ∀ env : Env, env.scope = sc → swapsWith (.ListComp elt [⟨t, iter, ifs, 0⟩] scope pos) (some (.Name x pos')) spos.line env = pure true)
    (hs : ∀ (env : Env) (x : Value), foldedSetIterable iter env x = pure x := by intro _ _; rfl) : Es C n sc ρ (.Assign [.Name x pos'] (.ListComp elt [⟨t, iter, ifs, 0⟩] scope pos) spos) (.next ((x, .own rs) :: ρ)) := by
  intro A K M X env s E ok O I Dj
  rw [exec_Assign_Name_used _ _ _ _ (hsw env O.rd.scp)]
  refine wpAny_bind (wpAny_standAt (wpAny_bind ?_))
  show wpAny C.md A (do let _ ← comprehension (.ListComp elt [⟨t, iter, ifs, 0⟩] scope pos) scope env _ (newList []) false (eval iter env) (some (PySem.assign (.Name x pos') env))) _ _ s
  refine wpAny_bind (wpAny_mono (comp_run (use := some (PySem.assign (.Name x pos') env)) (Q := fun _ s' => OutAt C K X sc env (.next ((x, .own rs) :: ρ)) .next s') hi k hb hsz hs ok (O.rdX X) I fun s' K' D L vs m oL es ep l hYD hYL hDL I' r hd hk => ?_) (fun _ s' hq => wpAny_pure (wpAny_pure hq)) fun _ _ e => e)
  have split : ∀ b, (M.join X) b = none → M b = none ∧ X b = none := fun b h => by
    have : M b = none := by
      cases q : M b with
      | none => rfl
      | some o' => rw [HM.join_left q] at h; cases h
    exact ⟨this, by rw [HM.join_right this] at h; exact h⟩
  obtain ⟨hMD, hXD⟩ := split D hYD
  obtain ⟨hML, hXL⟩ := split L hYL
  have hM'L : (M.set D (plainL vs m)) L = none := by rw [HM.set_ne _ _ (Ne.symm hDL)]; exact hML
  rw [HM.join_set, HM.join_set_right hM'L] at I'
  obtain ⟨O₁, hfr⟩ := O.addList (o := plainL vs m) l hMD rfl
  have D₁ : Disj (M.set D (plainL vs m)) (X.set L oL) := fun b ob e => by
    have q : b ≠ L := fun q => by rw [q, hM'L] at e; cases e
    rw [HM.set_ne _ _ q]
    exact Dj.set hXD b ob e
  show wpAny C.md A (PySem.assign (.Name x pos') env (.ref D)) _ E s'
  refine wpAny_assign_Name (O₁.store I' D₁ (.inl hx) (pv := .own rs) ⟨D, plainL vs m, vs, m, rfl, HM.set_self .., rfl, ⟨rfl, rfl⟩, rfl, r, hfr⟩ fun s₂ M₂ I₂ D₂ O₂ => ?_)
  have hM₂L : M₂ L = none := by
    cases q : M₂ L with
    | none => rfl
    | some ob => have := D₂ _ _ q; rw [HM.set_self] at this; cases this
  have hYL₂ : (M₂.join (X.set L oL)) L = some oL := (HM.join_right hM₂L).trans (HM.set_self ..)
  obtain ⟨o₁, ho₁, se⟩ := I₂.y L oL hYL₂
  refine ⟨_, ⟨o₁, es, ep, ho₁, se.dat.trans hd, hk, fun _ => rfl⟩, fun h' hsb => ?_⟩
  have hdel : ∀ b, (X.set L oL).del L b = X b := fun b => by
    by_cases q : b = L
    · rw [q, HM.del_self, hXL]
    · rw [HM.del_ne _ q, HM.set_ne _ _ q]
  have I₃ := (I₂.drop s₂.toks hYL₂ hsb.extBut).joinDel D₂ hM₂L
  have D₃ := D₂.leX (HM.del_le (X.set L oL) L)
  rw [funext hdel] at I₃ D₃
  exact ⟨K', M₂, l, I₃, D₃, rfl, O₂⟩
end
end Sq
end

section
set_option autoImplicit false
set_option linter.unusedVariables false
open PySem PyProof.Rows
namespace Sq

section
variable {prog : Program} {w : World} {A : Around} {E : Value → Shared → Prop} {s : Shared}
theorem setItem_plain {l : Addr} {items : Array Value} {m : Nat} {k : Int} {t : Tok} {v : Value} {Q : Unit → Shared → Prop} (ho : s.heap.get? l = some (plainL items m))
    (h0 : 0 ≤ k) (hfit : k < 2 ^ 63) (hn : k < items.size) (hQ : Q () { s with heap := s.heap.update l (Obj.mapSeq (·.setIfInBounds k.toNat v)) }) :
    wpAny (model prog w) A (setItem (.ref l) (.int k t) v) Q E s := by
  have hl : s.heap.IsList l items := ⟨_, ho, rfl, m, rfl⟩
  unfold setItem
  try with_reducible refine wpAny_holding ?_
  first | refine wpAny_bind (wpAny_pure ?_) | skip
  refine wpAny_bind (wpAny_sequenceKey hl.typeIs (by decide) ?_)
  refine wpAny_bind (wpAny_callSpecial?_slot (name := Str.ofString "__setitem__") hl.typeIs slot_list_setitem
    (wpAny_call_entry slot_list_setitem hl.typeIs entry_list_setitem ?_ (args_list_setitem _ _ _)))
  show wpAny _ _ (Builtin.List.listSubscript? (.int k t) >>= _) _ _ s
  refine wpAny_bind (wpAny_listSubscript_int (fitsIndex_of h0 hfit) ?_)
  clear hfit
  obtain ⟨j, rfl⟩ := Int.eq_ofNat_of_zero_le h0
  have hj : j < items.size := by omega
  have hx' : items[j]? = some items[j] := Array.getElem?_eq_getElem hj
  show wpAny _ _ ((seqItemAt l j >>= fun r => pure (r.map (j, ·))) >>= _) _ _ s
  refine wpAny_bind (wpAny_bind (wpAny_seqItemAt ho rfl (wpAny_pure ?_)))
  rw [hx']
  show wpAny _ _ (setSeqItemAt l j v >>= _) _ _ s
  refine wpAny_bind (wpAny_setSeqItemAt ho rfl ?_)
  first
    | exact wpAny_bind (wpAny_pure (wpAny_pure ⟨.none, rfl, wpAny_pure hQ⟩))
    | exact wpAny_pure ⟨.none, rfl, wpAny_pure hQ⟩
end

section
variable {C : Cx} {n : Nat} {sc : Scope} {ρ : PEnv}

theorem EnvOk.ownAt {K M X : HM} {env : Env} {s : Shared} {x : Str} {ds : List PyData} (O : EnvOk K M sc env ρ) (I : Inv C K (M.join X) s) (hx : ρ.lookup x = some (.own ds)) :
    ∃ a vs m, VarAt M env x (.ref a) ∧ M a = some (plainL vs m) ∧ s.heap.get? a = some (plainL vs m) ∧ RepAll K vs.toList ds := by
  obtain ⟨a, o, vs, m, V, ha, hc, hdd, hd, r⟩ := O.rd.vars x _ hx
  have e := plain_eq hc hdd hd
  subst e
  obtain ⟨o', ho', se⟩ := I.y _ _ (HM.join_left ha)
  have e' := se.eq (by simp)
  subst e'
  exact ⟨a, vs, m, V, ha, ho', r⟩

theorem EnvOk.putPlain {K M X : HM} {env : Env} {s : Shared} {x : Str} {ds ds' : List PyData} {a : Addr} {vs vs' : Array Value} {m m' : Nat} {h' : Heap} {t : Nat} (O : EnvOk K M sc env ρ) (I : Inv C K (M.join X) s) (D : Disj M X) (hx : ρ.lookup x = some (.own ds)) (V : VarAt M env x (.ref a)) (ha : M a = some (plainL vs m))
    (hk : Heap.ExtBut a s.heap h') (ho : h'.get? a = some (plainL vs' m')) (r : RepAll K vs'.toList ds') :
    Inv C K ((M.set a (plainL vs' m')).join X) { s with heap := h', toks := t } ∧ Disj (M.set a (plainL vs' m')) X ∧ EnvOk K (M.set a (plainL vs' m')) sc env ((x, .own ds') :: ρ) := by
  have J := I.upd t (HM.join_left ha) hk ho
  rw [HM.join_set] at J
  exact ⟨J, D.set (D _ _ ha), O.put hx V ha rfl rfl ⟨rfl, rfl⟩ rfl r⟩

theorem Es.append {x : Str} {px apos pos spos : Pos} {e : Expr} {ds : List PyData} {d : PyData} (hx : ρ.lookup x = some (.own ds)) (h : Ev C n sc ρ e d) (hst : ∀ y p, e ≠ .Starred y p) (hsz : ds.length ≤ sizeLine)
    (hl : apos.endLine == pos.line := by rfl) (hdb : (x == ("__debug__" : Str)) = false := by decide) :
    Es C n sc ρ (.Expr (.Call (.Attribute (.Name x px) "append" apos) [e] [] pos) spos) (.next ((x, .own (ds ++ [d])) :: ρ)) := by
  intro A K M X env s E a O I D
  obtain ⟨l, vs, m, V, hM, hh, r⟩ := O.ownAt I hx
  have hil : interactive env = false := by unfold interactive; rw [O.rd.fk]; rfl
  refine wpAny_Expr ?_ hil rfl
  refine MethodCall_ (pl := (do return (← importBound (.Name x px) env).getD true)) (wpAny_Name ((V.mono (HM.le_join M X)).load I O.rd.fk (Calls.getMethod_list_append hh rfl rfl ?_)) hdb) ?_
  · refine callWith_method1 ?_ (starEach_plain hst) rfl
    rw [starEach_plain hst]
    refine Calls.spliced_cons (h.use a (O.rdX X) I fun v s₁ K₁ l₁ I₁ r₁ R₁ => Calls.spliced_nil ?_)
    obtain ⟨o₁, ho₁, se⟩ := I₁.y _ _ (HM.join_left hM)
    have e₁ := se.eq (by simp)
    subst e₁
    have hvs : vs.size = ds.length := by have := r.length; simpa using this
    refine wpAny_list_append_plain ⟨m, ho₁⟩ (fun h' hp hs => ?_) (by rw [hvs]; exact hsz)
    obtain ⟨m', ho'⟩ := hp
    obtain ⟨J, D', O'⟩ := (O.monoK l₁).putPlain (t := s₁.toks) I₁ D hx V hM hs.extBut ho' (by simpa using (r.mono l₁).append (.one r₁))
    exact ⟨K₁, _, l₁, J, D', rfl, O'⟩
  · have hl' : (apos.endLine == pos.line) = true := hl
    show (do
      let ov ← eval (.Name x px) env
      standAt apos.atName
      methodCall (.Name x px) "append" apos pos env ov 1 (backTo pos (starEach [e] env)) []) = _
    unfold methodCall
    have hf : methodCallForm 1 (backTo pos (starEach [e] env)) [] = true := by
      rw [starEach_plain hst]; rfl
    simp only [hf, calleeOf, if_true, methodCallPos, Bool.not_true, Bool.false_or, hl']
    rfl

theorem Es.setItem {x : Str} {px pos' pos : Pos} {ie e : Expr} {ds : List PyData} {i : Int} {d : PyData} (hx : ρ.lookup x = some (.own ds)) (hi : Ev C n sc ρ ie (.int i)) (h : Ev C n sc ρ e d) (h0 : 0 ≤ i) (h1 : i < ds.length) (h2 : i < 2 ^ 63)
    (hs : ∀ env : Env, swapsWith e (some (.Subscript (.Name x px) ie pos')) pos.line env = pure false := by intro _; rfl) (hdb : (x == ("__debug__" : Str)) = false := by decide) :
    Es C n sc ρ (.Assign [.Subscript (.Name x px) ie pos'] e pos) (.next ((x, .own (ds.set i.toNat d)) :: ρ)) := by
  intro A K M X env s E a O I D
  refine wpAny_Assign_Subscript (h.use a (O.rdX X) I fun v s₁ K₁ l₁ I₁ r₁ R₁ => ?_) (hs env)
  have O₁ := O.monoK l₁
  obtain ⟨l, vs, m, V, hM, hh, r⟩ := O₁.ownAt I₁ hx
  refine wpAny_Name ((V.mono (HM.le_join M X)).load I₁ O.rd.fk (hi.use a R₁ I₁ fun u s₂ K₂ l₂ I₂ r₂ R₂ => ?_)) hdb
  cases r₂ with
  | int _ t =>
  obtain ⟨o₂, ho₂, se⟩ := I₂.y _ _ (HM.join_left hM)
  have e₂ := se.eq (by simp)
  subst e₂
  have hvs : vs.size = ds.length := by have := r.length; simpa using this
  refine setItem_plain ho₂ h0 h2 (by rw [hvs]; exact h1) ?_
  have hup := IsL.update (n := m) (show IsL s₂.heap l vs m from ho₂) (·.setIfInBounds i.toNat v)
  obtain ⟨J, D', O'⟩ := (O₁.monoK l₂).putPlain (t := s₂.toks) I₂ D hx V hM (Heap.SameBut.update ..).extBut hup (by simpa using (r.mono l₂).set (r₁.mono l₂))
  exact ⟨K₂, _, l₁.trans l₂, J, D', rfl, O'⟩

theorem Es.delLast {x : Str} {px pos' pos : Pos} {ie : Expr} {ds : List PyData} {d : PyData} (hx : ρ.lookup x = some (.own (ds ++ [d]))) (hi : Ev C n sc ρ ie (.int (-1))) (hsz : ds.length < sizeLine) (hdb : (x == ("__debug__" : Str)) = false := by decide) :
    Es C n sc ρ (.Delete [.Subscript (.Name x px) ie pos'] pos) (.next ((x, .own ds) :: ρ)) := by
  intro A K M X env s E a O I D
  obtain ⟨l, vs, m, V, hM, hh, r⟩ := O.ownAt I hx
  refine wpAny_Delete (wpAny_deleteEach_cons ?_)
  show wpAny C.md A (do
    let ov ← eval (.Name x px) env
    let iv ← holding [ov] (eval ie env)
    standAt pos'
    holding [ov, iv] (delItem ov iv)
    release [ov, iv] []) _ E s
  refine wpAny_bind (wpAny_Name ((V.mono (HM.le_join M X)).load I O.rd.fk (wpAny_bind (wpAny_holding (hi.use a (O.rdX X) I fun u s₂ K₂ l₂ I₂ r₂ R₂ => ?_)))) hdb)
  cases r₂ with
  | int _ t =>
  obtain ⟨o₂, ho₂, se⟩ := I₂.y _ _ (HM.join_left hM)
  have e₂ := se.eq (by simp)
  subst e₂
  have hvs : vs.size = ds.length + 1 := by have := r.length; simpa using this
  refine wpAny_bind (wpAny_standAt (wpAny_bind (wpAny_holding (wpAny_delItem_plain (k := ds.length) ⟨m, ho₂⟩ rfl ?_ (fun h' hp hs => ?_) (by rw [hvs]; exact hsz)))))
  · rw [seqIndex_neg (by decide) (by rw [hvs]; omega), hvs]
    congr 1; omega
  obtain ⟨m', ho'⟩ := hp
  have hr : RepAll K₂ (vs.eraseIdxIfInBounds ds.length).toList ds := by
    have q := (r.mono l₂).take ds.length
    rw [List.take_left] at q
    have e : (vs.eraseIdxIfInBounds ds.length).toList = vs.toList.take ds.length := by
      have hlt : ds.length < vs.size := by omega
      simp only [Array.eraseIdxIfInBounds, hlt, dite_true, Array.toList_eraseIdx]
      rw [List.eraseIdx_eq_take_drop_succ, List.drop_of_length_le (by simp; omega), List.append_nil]
    rw [e]; exact q
  obtain ⟨J, D', O'⟩ := (O.monoK l₂).putPlain (t := s₂.toks) I₂ D hx V hM hs.extBut ho' hr
  have rel : ∀ {Q : Unit → Shared → Prop} {s' : Shared}, Q () s' → wpAny C.md A (release [.ref l, .int (-1) t] []) Q E s' := fun h Γ p hΓ => by rw [Sem.wp_release]; exact h
  exact rel (wpAny_deleteEach_nil ⟨K₂, _, l₂, J, D', rfl, O'⟩)
end
end Sq
end

section
set_option autoImplicit false
set_option linter.unusedVariables false
open PySem PyProof.Rows
namespace Sq

mutual
theorem Rep.reads {K : HM} {h : Heap} (hk : ∀ a o, K a = some o → h.get? a = some o) : ∀ {v d}, Rep K v d → PyData.canLay0 d = true → ∃ as, Reads h v d as
  | _, _, .none, _ => ⟨_, .none⟩
  | _, _, .bool b, _ => ⟨_, .bool b⟩
  | _, _, .int i t, _ => ⟨_, .int i t⟩
  | _, _, .str x t, _ => ⟨_, .str x t⟩
  | _, _, .list a b _ c r, e => let ⟨as, q⟩ := RepAll.reads hk r (by simpa [PyData.canLay0] using e); ⟨_, .list (hk _ _ a) b c q⟩
  | _, _, .tuple a b c r, e => let ⟨as, q⟩ := RepAll.reads hk r (by simpa [PyData.canLay0] using e); ⟨_, .tuple (hk _ _ a) b c q⟩
  | _, _, .dict _ _ _, e => by simp [PyData.canLay0] at e
theorem RepAll.reads {K : HM} {h : Heap} (hk : ∀ a o, K a = some o → h.get? a = some o) : ∀ {vs ds}, RepAll K vs ds → PyData.canLayAll0 ds = true → ∃ as, ReadsAll h vs ds as
  | _, _, .nil, _ => ⟨_, .nil⟩
  | _, _, .cons a b, e => by
    simp only [PyData.canLayAll0, Bool.and_eq_true] at e
    obtain ⟨as, q⟩ := Rep.reads hk a e.1
    obtain ⟨bs, q'⟩ := RepAll.reads hk b e.2
    exact ⟨_, .cons q q'⟩
end
mutual
theorem eqv_self : ∀ d : PyData, PyData.canLay0 d = true → PyData.eqv d d = true
  | .none, _ => by simp [PyData.eqv]
  | .bool b, _ => by simp [PyData.eqv]
  | .int i, _ => by simp [PyData.eqv]
  | .str x, _ => by simp [PyData.eqv]
  | .list xs, e => by simp only [PyData.eqv]; exact eqvAll_self xs (by simpa [PyData.canLay0] using e)
  | .tuple xs, e => by simp only [PyData.eqv]; exact eqvAll_self xs (by simpa [PyData.canLay0] using e)
  | .dict _, e => by simp [PyData.canLay0] at e
theorem eqvAll_self : ∀ ds : List PyData, PyData.canLayAll0 ds = true → PyData.eqvAll ds ds = true
  | [], _ => by simp [PyData.eqvAll]
  | d :: ds, e => by
    simp only [PyData.canLayAll0, Bool.and_eq_true] at e
    simp only [PyData.eqvAll, Bool.and_eq_true]
    exact ⟨eqv_self d e.1, eqvAll_self ds e.2⟩
end
theorem shaped_of {d : PyData} (h : PyData.canLay0 d = true) (h' : d.depth ≤ 64) : SeqAt.shaped d = true := by
  unfold SeqAt.shaped; rw [h]; simpa using h'

def nums (ns : List Int) : List PyData := ns.map .int
theorem RepAll.intsAre {K : HM} : ∀ {ns : List Int} {vs : List Value}, RepAll K vs (nums ns) → IntsAre vs ns
  | [], _, h => by cases h; exact .nil
  | n :: ns, _, h => by
    cases h with
    | cons a b => cases a; exact .cons _ _ (RepAll.intsAre b)

def tyOf : PyData → String
  | .none => "NoneType"
  | .bool _ => "bool"
  | .int _ => "int"
  | .str _ => "str"
  | .list _ => "list"
  | .tuple _ => "tuple"
  | .dict _ => "dict"

section
variable {C : Cx} {n : Nat} {sc : Scope} {ρ : PEnv}

theorem Bin.eqD {d : PyData} (h : PyData.canLay0 d = true) (h' : d.depth ≤ 64) : Bin C n (compareOp .Eq) d d (.bool true) := by
  intro K Y v u r₁ r₂ A s E ok I
  obtain ⟨as, q⟩ := r₁.reads I.k h
  obtain ⟨bs, q'⟩ := r₂.reads I.k h
  refine eq_dataH q q' (shaped_of h h') (shaped_of h h') ok.units ?_
  rw [eqv_self d h]; exact .mk I (.bool _)
theorem Bin.neD {d : PyData} (h : PyData.canLay0 d = true) (h' : d.depth ≤ 64) : Bin C n (compareOp .NotEq) d d (.bool false) := by
  intro K Y v u r₁ r₂ A s E ok I
  obtain ⟨as, q⟩ := r₁.reads I.k h
  obtain ⟨bs, q'⟩ := r₂.reads I.k h
  refine ne_dataH q q' (shaped_of h h') (shaped_of h h') ok.units ?_
  rw [eqv_self d h]; exact .mk I (.bool _)

theorem Tt.val {e : Expr} {b : Bool} (h : Ev C n sc ρ e (.bool b)) (he : ∀ (env : Env) (whole : Sem Value), isTrue e env whole = (do let v ← whole; standAt e.pos; holding [v] (truthy v)) := by intro _ _; rfl) : Tt C n sc ρ e b := by
  intro A K Y env s E a R I
  refine wpAny_isTrue_value (h.use a R I fun v s₁ K₁ l₁ I₁ r₁ R₁ => ?_) (he env _)
  cases r₁
  exact wpAny_truthy_bool ⟨rfl, K₁, l₁, I₁⟩

inductive TtL (C : Cx) (n : Nat) (sc : Scope) (ρ : PEnv) : BoolOp → List Expr → Bool → Prop
  | andNil : TtL C n sc ρ .And [] true
  | orNil : TtL C n sc ρ .Or [] false
  | andF {e es} : Tt C n sc ρ e false → TtL C n sc ρ .And (e :: es) false
  | andT {e es b} : Tt C n sc ρ e true → TtL C n sc ρ .And es b → TtL C n sc ρ .And (e :: es) b
  | orT {e es} : Tt C n sc ρ e true → TtL C n sc ρ .Or (e :: es) true
  | orF {e es b} : Tt C n sc ρ e false → TtL C n sc ρ .Or es b → TtL C n sc ρ .Or (e :: es) b

theorem TtL.run {op : BoolOp} {es : List Expr} {b : Bool} (h : TtL C n sc ρ op es b) : ∀ {A : Around} {K Y : HM} {env : Env} {s : Shared} {E : Value → Shared → Prop}, AOk n A → EnvRd K Y sc env ρ → Inv C K Y s →
    wpAny C.md A (allTrue op es env) (fun r s' => r = b ∧ ∃ K', HM.le K K' ∧ Inv C K' Y s') E s := by
  induction h with
  | andNil => intro A K Y env s E a R I; exact wpAny_allTrue_And_nil ⟨rfl, K, HM.le.refl _, I⟩
  | orNil => intro A K Y env s E a R I; exact wpAny_allTrue_Or_nil ⟨rfl, K, HM.le.refl _, I⟩
  | andF h =>
    intro A K Y env s E a R I
    refine wpAny_allTrue_And_cons (wpAny_mono (h A K Y env s E a R I) (fun r s' p => ?_) fun _ _ x => x)
    obtain ⟨rfl, p⟩ := p
    exact ⟨rfl, p⟩
  | andT h _ ih =>
    intro A K Y env s E a R I
    refine wpAny_allTrue_And_cons (wpAny_mono (h A K Y env s E a R I) (fun r s' p => ?_) fun _ _ x => x)
    obtain ⟨rfl, K', l, I'⟩ := p
    exact wpAny_mono (ih a (R.monoK l) I') (fun r s' ⟨e, K'', l', I''⟩ => ⟨e, K'', l.trans l', I''⟩) fun _ _ x => x
  | orT h =>
    intro A K Y env s E a R I
    refine wpAny_allTrue_Or_cons (wpAny_mono (h A K Y env s E a R I) (fun r s' p => ?_) fun _ _ x => x)
    obtain ⟨rfl, p⟩ := p
    exact ⟨rfl, p⟩
  | orF h _ ih =>
    intro A K Y env s E a R I
    refine wpAny_allTrue_Or_cons (wpAny_mono (h A K Y env s E a R I) (fun r s' p => ?_) fun _ _ x => x)
    obtain ⟨rfl, K', l, I'⟩ := p
    exact wpAny_mono (ih a (R.monoK l) I') (fun r s' ⟨e, K'', l', I''⟩ => ⟨e, K'', l.trans l', I''⟩) fun _ _ x => x

theorem Tt.boolOp {op : BoolOp} {es : List Expr} {pos : Pos} {b : Bool} (h : TtL C n sc ρ op es b) : Tt C n sc ρ (.BoolOp op es pos) b := by
  intro A K Y env s E a R I
  exact wpAny_isTrue_BoolOp (h.run a R I)

theorem Ev.neg {e : Expr} {pos : Pos} {i : Int} (h : Ev C n sc ρ e (.int i)) : Ev C n sc ρ (.UnaryOp .USub e pos) (.int (-i)) := by
  intro A K Y env s E a R I
  refine wpAny_UnaryOp (h.use a R I fun v s₁ K₁ l₁ I₁ r₁ R₁ => ?_)
  cases r₁
  exact PyProof.Rows.neg_int ((Post.mk (I₁.tok _) (.int _ _)).up l₁)

theorem CallB.lenL {ds : List PyData} (h : ds.length < 2 ^ 62) : CallB C n (.builtin "len") [.list ds] (.int ds.length) := by
  intro K Y vs A s E q a I
  cases q with
  | cons r q =>
    cases q
    obtain ⟨l, ws, rfl, hl, q⟩ := r.isList I
    have hsz : ws.size = ds.length := by have := q.length; simpa using this
    refine Calls.call_len_list hl (by rw [hsz]; omega) (.mk (I.tok _) ?_)
    rw [hsz]; exact .int _ _
theorem CallB.lenT {ds : List PyData} (h : ds.length < 2 ^ 62) : CallB C n (.builtin "len") [.tuple ds] (.int ds.length) := by
  intro K Y vs A s E q a I
  cases q with
  | cons r q =>
    cases q
    obtain ⟨l, ws, rfl, hl, q⟩ := r.isTup I
    have hsz : ws.size = ds.length := by have := q.length; simpa using this
    refine PyProof.Rows.len_tuple hl (by rw [hsz]; omega) (.mk (I.tok _) ?_)
    rw [hsz]; exact .int _ _
theorem CallB.min2 {a b : Int} : CallB C n (.builtin "min") [.int a, .int b] (.int (min a b)) := by
  intro K Y vs A s E q ok I
  cases q with
  | cons r q =>
    cases q with
    | cons r' q =>
      cases q; cases r; cases r'
      refine min_two_ints ok.h fun h' tk hk => ?_
      refine .mk (I.ext tk hk) ?_
      by_cases hab : b < a
      · rw [if_pos hab, show min a b = b by omega]; exact .int _ _
      · rw [if_neg hab, show min a b = a by omega]; exact .int _ _
theorem CallB.maxL {ns : List Int} {m : Int} (hm : m ∈ ns) (hall : ∀ j ∈ ns, j ≤ m) : CallB C n (.builtin "max") [.list (nums ns)] (.int m) := by
  intro K Y vs A s E q ok I
  cases q with
  | cons r q =>
    cases q
    obtain ⟨l, ws, rfl, hl, q⟩ := r.isList I
    have hi := q.intsAre
    obtain ⟨xs, hxs⟩ := AllInts.items (vs := ws) (by have := hi.allInts; simpa using this)
    subst hxs
    have hnum : xs.toList.map (·.1) = ns := by rw [← nums_intItems]; exact hi.numsOf
    have hne : 0 < xs.size := by
      have h1 : 0 < ns.length := List.length_pos_of_mem hm
      rw [← hnum] at h1; simpa using h1
    refine max_intList ok.h hl hne fun v h' tk hv hk => ?_
    obtain ⟨t, rfl⟩ := intItems_at hv
    obtain ⟨h1, h2⟩ := argBest_gt (numAt xs) (xs.size - 1)
    generalize hb : argBest (fun i j => decide (numAt xs i > numAt xs j)) (xs.size - 1) = b at *
    have e : numAt xs b = m := by
      have hmem : numAt xs b ∈ ns := by
        rw [numAt_eq, hnum]
        have hlt : b < ns.length := by rw [← hnum]; simp; omega
        rw [List.getD_eq_getElem?_getD, List.getElem?_eq_getElem hlt]; simp
      have hle := hall _ hmem
      obtain ⟨j, hj, hjm⟩ := List.getElem_of_mem hm
      have h3 := h2 j (by have : j < xs.size := by rw [← hnum] at hj; simpa using hj
                          omega)
      have h4 : numAt xs j = m := by
        rw [numAt_eq, hnum, List.getD_eq_getElem?_getD, List.getElem?_eq_getElem hj, hjm]; rfl
      omega
    rw [e]
    exact .mk (I.ext tk hk) (.int _ _)
theorem CallB.sumL {ns : List Int} : CallB C n (.builtin "sum") [.list (nums ns)] (.int ns.sum) := by
  intro K Y vs A s E q ok I
  cases q with
  | cons r q =>
    cases q
    obtain ⟨l, ws, rfl, hl, q⟩ := r.isList I
    have hi := q.intsAre
    obtain ⟨xs, hxs⟩ := AllInts.items (vs := ws) (by have := hi.allInts; simpa using this)
    subst hxs
    have hnum : xs.toList.map (·.1) = ns := by rw [← nums_intItems]; exact hi.numsOf
    refine sum_intListG ok.h hl fun h' tk t hk => ?_
    rw [preSum_eq, List.take_of_length_le (by simp), hnum]
    exact .mk (I.ext tk hk) (.int _ _)
theorem CallN.listL {ds : List PyData} (h : ds.length ≤ sizeLine) : CallN C n (.type "list") [.list ds] ds := by
  intro K Y vs A s E q ok I
  cases q with
  | cons r q =>
    cases q
    obtain ⟨l, o, ws, m, rfl, hk, hc, hd, q⟩ := r.listInv
    have hsz : ws.size = ds.length := by have := q.length; simpa using this
    refine call_list_seq l (.inl rfl) (I.k _ _ hk) hc hd (fun h' c' hk' ho => ?_) (by rw [hsz]; exact h)
    exact NewL.at I s.toks hk' (Inv.none_of_size (Nat.le_refl _)) ho rfl ⟨rfl, rfl⟩ rfl q
theorem CallB.divmod2 {a b : Int} (hb : b ≠ 0) (hp : Builtin.divisionGoesByPylong a b = false) : CallB C n (.builtin "divmod") [.int a, .int b] (.tuple [.int (a.fdiv b), .int (a.fmod b)]) := by
  intro K Y vs A s E q ok I
  cases q with
  | cons r q =>
    cases q with
    | cons r' q =>
      cases q; cases r; cases r'
      refine divmod_int hb ?_ (.inl hp)
      exact Post.tuple I _ (.cons (.int _ _) (.cons (.int _ _) .nil))

theorem Rep.typeIs {K Y : HM} {s : Shared} {v : Value} {d : PyData} (r : Rep K v d) (I : Inv C K Y s) : s.TypeIs v (tyOf d) := by
  cases r with
  | none => exact PySem.typeIs_none s
  | bool b => exact PySem.typeIs_bool s b
  | int i t => exact PySem.typeIs_int s i t
  | str x t => exact PySem.typeIs_str s x t
  | list a b _ c r => exact ⟨_, I.k _ _ a, b⟩
  | tuple a b c r => exact ⟨_, I.k _ _ a, b⟩
  | dict a _ r => exact ⟨_, I.k _ _ a, rfl⟩

theorem Tt.typeIs {e : Expr} {tn T : Str} {U : String} {pf pos pt pos' : Pos} {d : PyData} (h : Ev C n sc ρ e d) (hst : ∀ y p, e ≠ .Starred y p) (hg : GlobV C tn (.type "type")) (hk : sc.names.lookup tn = some .globalImplicit) (hgT : GlobV C T (.type U)) (hkT : sc.names.lookup T = some .globalImplicit)
    (hd : (tn == ("__debug__" : Str)) = false := by decide) (hdT : (T == ("__debug__" : Str)) = false := by decide) :
    Tt C n sc ρ (.Compare (.Call (.Name tn pf) [e] [] pos) [.Is] [.Name T pt] pos') (tyOf d == U) := by
  intro A K Y env s E a R I
  refine wpAny_isTrue_Compare1 (call_name hg hk R I hd ((EvL.cons h hst .nil).callWith (List.cons_ne_nil _ _) (.type _) [] a R I fun vs s₁ K₁ l₁ I₁ q => ?_))
  cases q with
  | cons r q =>
    cases q
    refine call_type_of (r.typeIs I₁) (by cases d <;> rfl) ?_
    refine Calls.Name_function_global R.fk ((R.kindOf T).trans hkT) (hgT A K₁ Y env s₁ E _ R.gl R.bi I₁ ?_) hdT
    refine wpAny_is_plain rfl (wpAny_truthy_bool ⟨?_, K₁, l₁, I₁⟩)
    by_cases hT : tyOf d = U
    · rw [hT, beq_self_eq_true, beq_self_eq_true]
    · rw [beq_eq_false_iff_ne.mpr hT, beq_eq_false_iff_ne]
      intro e; exact hT (by injection e)

theorem Tt.isNone {e : Expr} {d : PyData} {k : Nat} {pc pos : Pos} (h : Ev C n sc ρ e d) : Tt C n sc ρ (.Compare e [.Is] [.Constant .none k pc] pos) (tyOf d == "NoneType") := by
  intro A K Y env s E a R I
  refine wpAny_isTrue_Compare1 (h.use a R I fun v s₁ K₁ l₁ I₁ r₁ R₁ => wpAny_pure ?_)
  cases r₁ with
  | none => exact wpAny_is_self rfl (wpAny_truthy_bool ⟨rfl, K₁, l₁, I₁⟩)
  | bool b => exact is_bool_none (wpAny_truthy_bool ⟨rfl, K₁, l₁, I₁⟩)
  | int i t => exact is_int_none (wpAny_truthy_bool ⟨rfl, K₁, l₁, I₁⟩)
  | str x t => exact is_str_none (wpAny_truthy_bool ⟨rfl, K₁, l₁, I₁⟩)
  | list a b _ c r => exact is_ref_none (wpAny_truthy_bool ⟨rfl, K₁, l₁, I₁⟩)
  | tuple a b c r => exact is_ref_none (wpAny_truthy_bool ⟨rfl, K₁, l₁, I₁⟩)
  | dict a _ r => exact is_ref_none (wpAny_truthy_bool ⟨rfl, K₁, l₁, I₁⟩)
theorem Ev.isNoneT {e : Expr} {k : Nat} {pc pos : Pos} (h : Ev C n sc ρ e .none) : Ev C n sc ρ (.Compare e [.Is] [.Constant .none k pc] pos) (.bool true) := by
  intro A K Y env s E a R I
  refine wpAny_Compare1 (h.use a R I fun v s₁ K₁ l₁ I₁ r₁ R₁ => wpAny_pure ?_)
  cases r₁
  exact wpAny_is_self rfl ⟨K₁, l₁, I₁, .bool _⟩

theorem Ev.lenOwn {f x : Str} {pf px pos : Pos} {ds : List PyData} (hg : GlobV C f (.builtin "len")) (hk : sc.names.lookup f = some .globalImplicit) (hx : ρ.lookup x = some (.own ds)) (h : ds.length < 2 ^ 62)
    (hd : (f == ("__debug__" : Str)) = false := by decide) (hdx : (x == ("__debug__" : Str)) = false := by decide) : Ev C n sc ρ (.Call (.Name f pf) [.Name x px] [] pos) (.int ds.length) := by
  intro A K Y env s E a R I
  obtain ⟨l, o, vs, m, V, hy, hc, hdd, hda, q⟩ := R.vars x _ hx
  refine call_name hg hk R I hd (Calls.callWith_builtin rfl (Calls.evalArgs_plain ?_))
  refine Calls.spliced_cons (wpAny_Name (V.load I R.fk (Calls.spliced_nil ?_)) hdx)
  obtain ⟨o', ho', se⟩ := I.y _ _ hy
  have hsz : vs.size = ds.length := by have := q.length; simpa using this
  refine Calls.call_len_list ⟨o', ho', se.cls.trans hc, m, se.dat.trans hda⟩ (by rw [hsz]; omega) (.mk (I.tok _) ?_)
  rw [hsz]; exact .int _ _
end
end Sq
end

section
set_option autoImplicit false
set_option linter.unusedVariables false
open PySem PyProof.Rows
namespace Sq

theorem list_keys_none : typeLookup (.type "list") "keys" = pure none := am_miss_of_fast (by decide +kernel)

section
variable {prog : Program} {w : World} {A : Around} {E : Value → Shared → Prop} {s : Shared}
theorem getAttrQ_miss_list {a : Addr} {o : Obj} {xs : Array Value} {k : Nat} {name : Str} {Q : Option Value → Shared → Prop}
    (hx : s.heap.get? a = some o) (hc : o.cls = .type "list") (hdat : o.data = .seq xs k) (hd : o.dict = none) (hmiss : typeLookup (.type "list") name = pure none) (hname : (["__module__", "__name__", "__qualname__", "__doc__", "__annotations__"] : List Str).contains name = false) (hA : A.handled = none)
    (h : ∀ h' tk, (∀ b o, s.heap.get? b = some o → h'.get? b = some o) → Q none { s with heap := h', toks := tk }) (hsz : name.length + 100 ≤ sizeLine := by size_fits) :
    wpAny (model prog w) A (getAttr? (.ref a) name) Q E s := by
  obtain ⟨c, dct, dat, sl⟩ := o
  simp only at hc hdat hd
  subst hc hdat hd
  obtain ⟨hp, g, d, tk, os⟩ := s
  have hT : ∀ tk', (⟨hp, g, d, tk', os⟩ : Shared).TypeIs (.ref a) "list" := fun _ => ⟨_, hx, rfl⟩
  have f1 := sub_AttributeError
  have f3 := F.slot_list_getattribute.lookup
  have f4 := F.slot_list_getattribute.bind (.ref a)
  have f5 := am_list_getattr_none
  unfold getAttr? getAttrBy? getAttrBy
  repeat (any_goals (first | assumption | exact hT _ | ((with_reducible show wpAny _ _ (call (Value.builtin "list.__getattribute__") _ _) _ _ _); refine call_meets F.slot_list_getattribute (hT _) am_entry_list_getattribute (F.args_list_getattribute_2 _ _) (meets_getattribute_miss_list a xs k sl name _ hmiss hname hsz) ⟨hx, hA, fun h' tk' e hx' => ?_⟩) | wp_step))
  obtain ⟨t', u', he⟩ := hx'.there
  show wpAny _ _ (getattributeRaised _ _ _ _ _ _ _) _ _ _
  unfold getattributeRaised
  repeat (any_goals (first | assumption | wp_step))
  exact h _ _ hx'.of.1
end

end Sq
end

section
set_option autoImplicit false
set_option linter.unusedVariables false
open PySem PyProof.Rows
namespace Sq

theorem plain_updloop : plainId "dict.update.loop" = true := by decide +kernel
theorem entry_updloop : entryFor table "dict.update.loop" = some Builtin.«dict.update.loop» := entryFor_of_tree (by kernel_rfl)

inductive KvAre (K : HM) : List (Int × Value) → List (Int × PyData) → Prop
  | nil : KvAre K [] []
  | cons {i v d kvs ps} : Rep K v d → KvAre K kvs ps → KvAre K ((i, v) :: kvs) ((i, d) :: ps)
theorem KvAre.keys {K : HM} {kvs : List (Int × Value)} {ps : List (Int × PyData)} (h : KvAre K kvs ps) : kvs.map (·.1) = ps.map (·.1) := by
  induction h with
  | nil => rfl
  | cons _ _ ih => simp [ih]
theorem KvAre.append {K : HM} {kvs kvs' : List (Int × Value)} {ps ps' : List (Int × PyData)} (h : KvAre K kvs ps) (h' : KvAre K kvs' ps') : KvAre K (kvs ++ kvs') (ps ++ ps') := by
  induction h with
  | nil => exact h'
  | cons a _ ih => exact .cons a ih
def pairD (p : Int × PyData) : PyData := .tuple [.int p.1, p.2]
def dictD (ps : List (Int × PyData)) : PyData := .dict (ps.map fun p => (.int p.1, p.2))

theorem RepKv.of {C : Cx} {K : HM} {es : List DictEntry} {kvs : List (Int × Value)} {ps : List (Int × PyData)} (hp : Pairs (intKind C.prog C.w) es kvs) (hk : ∀ e ∈ es, ∃ k, (intKind C.prog C.w).is k e.key = true ∧ e.hash = (intKind C.prog C.w).hash k) (h : KvAre K kvs ps) : RepKv K es (ps.map fun p => (.int p.1, p.2)) := by
  induction hp generalizing ps with
  | nil => cases h; exact .nil
  | @cons e kv es kvs h1 h2 h3 ih =>
    cases h with
    | cons r q =>
      obtain ⟨t, ht⟩ := Value.isInt_shape h1
      obtain ⟨k, hk1, hk2⟩ := hk e (List.mem_cons_self ..)
      have := (intKind C.prog C.w).inj _ _ _ hk1 h1
      subst this
      exact .cons ht hk2 (by rw [h2]; exact r) (ih (fun e' he' => hk e' (List.mem_cons_of_mem _ he')) q)

section
variable {C : Cx} {n : Nat} {sc : Scope} {ρ : PEnv}

theorem dictLoop : ∀ (ps : List (Int × PyData)) {A : Around} {K Y : HM} {s : Shared} {o od : Obj} {kvs : List (Int × Value)} {pre : List (Int × PyData)} {it d : Addr} {i : Int} {R : Result → Shared → Prop}, A.handled = none →
    IterIs K o (ps.map pairD) → Inv C K Y s → Y it = some o → s.heap.get? d = some od → d ≠ it → Y d = none → K d = none → C.P ≠ d → od.IsDictOf (intKind C.prog C.w) kvs → KvAre K kvs pre → ((pre ++ ps).map (·.1)).Nodup → (pre ++ ps).length ≤ sizeLine →
    (∀ s' od' kvs', Inv C K (Y.del it) s' → s'.heap.get? d = some od' → od'.IsDictOf (intKind C.prog C.w) kvs' → KvAre K kvs' (pre ++ ps) → R (.ok (.ret .none)) s') →
    codeAny C.md A (.builtin "dict.update.loop" ⟨[.ref d, .ref it, rawInt i, .none], []⟩) R s
  | [], A, K, Y, s, o, od, kvs, pre, it, d, i, R, hA, hi, I, hit, hd, hne, hYd, hKd, hPd, hdo, hkv, hnd, hsz, k => by
    refine codeAny_builtin entry_updloop ?_
    rw [Around.under_plainId plain_updloop _]
    show wpAny C.md A.in1 (do
      let some item ← pyNext (.ref it) | Builtin.Dict.addKeywords d []; ret .none
      _) _ _ s
    refine wpAny_bind (hi.done hA I hit fun s' I' hx => ?_)
    refine wpAny_bind (wpAny_pure (wpAny_pure ?_))
    exact k s' od kvs I' (hx d od hne hd) hdo (by simpa using hkv)
  | (j, dv) :: ps, A, K, Y, s, o, od, kvs, pre, it, d, i, R, hA, hi, I, hit, hd, hne, hYd, hKd, hPd, hdo, hkv, hnd, hsz, k => by
    refine codeAny_builtin entry_updloop ?_
    rw [Around.under_plainId plain_updloop _]
    show wpAny C.md A.in1 (do
      let some item ← pyNext (.ref it) | Builtin.Dict.addKeywords d []; ret .none
      _) _ _ s
    refine wpAny_bind (IterIs.next (ds := ps.map pairD) hi I hit fun v o' s₁ I₁ rv hi₁ hx => ?_)
    obtain ⟨t, vs, rfl, ht, q⟩ := (show Rep K v (.tuple [.int j, dv]) from rv).isTup I₁
    have hvs : ∃ t' u, vs.toList = [.int j t', u] ∧ Rep K u dv := by
      cases hl : vs.toList with
      | nil => rw [hl] at q; cases q
      | cons a r =>
        rw [hl] at q
        cases q with
        | cons ra rr =>
          cases ra
          cases rr with
          | cons rb rr => cases rr; exact ⟨_, _, rfl, rb⟩
    obtain ⟨t', u, hvs, ru⟩ := hvs
    obtain ⟨ot, hot, hct, mt, hdt⟩ := ht
    refine wpAny_bind (wpAny_holding (wpAny_bind (wpAny_tryCatch ?_)))
    unfold Builtin.Dict.pairItems
    refine wpAny_bind (wpAny_typeOf (T := "tuple") ⟨ot, hot, hct⟩ ?_)
    rw [if_pos (by decide)]
    refine wpAny_bind ?_
    unfold seqItems?
    refine wpAny_bind (wpAny_load hot ?_)
    rw [hdt]
    refine wpAny_pure (wpAny_pure ?_)
    show wpAny C.md A.in1 (match vs.toList with | [k, v] => holding [k, v] (dictSet d k v) | l => _) _ _ s₁
    rw [hvs]
    have hod₁ := hx d od hne hd
    have hlen : kvs.length = pre.length := by have := congrArg List.length hkv.keys; simpa using this
    refine wpAny_holding (wpAny_dictSet_pairs (knd := intKind C.prog C.w) (k := j) (kvs := kvs) (by simp [intKind, Value.isInt]) (Heap.dictOf_iff.mpr ⟨_, hod₁, hdo⟩) (fun h' hdo' hs' => ?_) (by simp at hsz; omega))
    have hst : stored kvs j u = kvs ++ [(j, u)] := by
      unfold stored
      rw [if_neg]
      rw [List.any_eq_true]
      rintro ⟨x, hx, he⟩
      have hx' : x.1 ∈ pre.map (·.1) := by rw [← hkv.keys]; exact List.mem_map_of_mem hx
      rw [List.map_append, List.map_cons, List.nodup_append] at hnd
      exact hnd.2.2 _ hx' _ (List.mem_cons_self ..) (of_decide_eq_true he)
    rw [hst] at hdo'
    obtain ⟨od', hod', hdo''⟩ := Heap.dictOf_iff.mp hdo'
    have hsetd : (Y.set it o') d = none := by rw [HM.set_ne _ _ hne]; exact hYd
    have I₂ : Inv C K (Y.set it o') { s₁ with heap := h', toks := s₁.toks + 1 } := by
      have ext := hs'.extBut
      refine ⟨fun a x e => ext a x (fun q => by rw [q, hKd] at e; cases e) (I₁.k a x e), fun a x e => ?_, I₁.dj, I₁.top, I₁.pk, I₁.py, ?_, I₁.os, I₁.gens⟩
      · obtain ⟨x', h, se⟩ := I₁.y a x e
        exact ⟨x', ext a x' (fun q => by rw [q, hsetd] at e; cases e) h, se⟩
      · obtain ⟨ps, h, r⟩ := I₁.tab
        exact ⟨ps, ext _ _ hPd h, r⟩
    refine wpAny_pure ⟨plainId_quiet plain_updloop _, ?_⟩
    refine dictLoop ps (pre := pre ++ [(j, dv)]) hA hi₁ I₂ (HM.set_self ..) hod' hne hsetd hKd hPd hdo'' (hkv.append (.cons ru .nil)) (by simpa using hnd) (by simpa using hsz) fun s' od' kvs' I' h0 h1 h2 => k s' od' kvs' (I'.less fun b x e => ?_) h0 h1 (by simpa using h2)
    have q2 : b ≠ it := fun q => by rw [q, HM.del_self] at e; cases e
    rw [HM.del_ne _ q2] at e ⊢
    rw [HM.set_ne _ _ q2]; exact e

theorem Rep.dictOf {K : HM} {od : Obj} {kvs : List (Int × Value)} {ps : List (Int × PyData)} {a : Addr} (hK : K a = some od) (hs : (a == sysModules) = false) (hd : od.IsDictOf (intKind C.prog C.w) kvs) (h : KvAre K kvs ps) : Rep K (.ref a) (dictD ps) := by
  obtain ⟨es, ep, hx, hdat, hk, hp, _⟩ := hd
  obtain ⟨c, d, dt, sl⟩ := od
  obtain ⟨h1, h2, h3⟩ := hx
  simp only at h1 h2 h3 hdat
  subst h1 h2 h3 hdat
  exact .dict hK hs (RepKv.of (C := C) hp (fun e he => hk e (by simpa using he)) h)

theorem KvAre.mono {K K' : HM} (l : HM.le K K') {kvs : List (Int × Value)} {ps : List (Int × PyData)} (h : KvAre K kvs ps) : KvAre K' kvs ps := by
  induction h with
  | nil => exact .nil
  | cons r _ ih => exact .cons (r.mono l) ih

theorem CallB.dictL {ps : List (Int × PyData)} (hsys : ∃ a o, C.K0 a = some o ∧ sysModules < a) (hnd : (ps.map (·.1)).Nodup) (hsz : ps.length ≤ sizeLine) : CallB C n (.type "dict") [.list (ps.map pairD)] (dictD ps) := by
  intro K Y vs A s E q ok I
  cases q with
  | cons r q =>
  cases q
  cases r with
  | @list l ol ws m _ hk hc hdd hd q =>
  have hf := Inv.none_of_size (Nat.le_refl s.heap.objs.size)
  refine callType_codes (Q₁ := fun obj s₁ => obj = .ref s.heap.objs.size ∧ s₁ = { s with heap := s.heap.push { cls := .type "dict", data := .dict #[] } }) F.kt_called_dict (F.kt_typeCall_dict_1 _) F.entry_dict_init (kt_code_dict_new _ ⟨rfl, rfl⟩) ?_
  rintro obj s₁ ⟨rfl, rfl⟩
  have I₁ := I.ext (h' := s.heap.push { cls := .type "dict", data := .dict #[] }) s.toks (fun _ _ e => Heap.get?_push_of_some _ e)
  have hYd := I.freshY hf
  have hnew : (s.heap.push { cls := .type "dict", data := .dict #[] }).DictOf (intKind C.prog C.w) s.heap.objs.size [] := Heap.DictOf.new s.heap
  have hdl : s.heap.objs.size ≠ l := fun e => by have := I.freshK hf; rw [e, hk] at this; cases this
  refine ⟨hnew.typeIs, F.args_dict_init_2 _ _, ?_⟩
  unfold Builtin.«dict.__init__»
  refine wpAny_bind ?_
  unfold Builtin.Dict.selfAndRest
  refine wpAny_bind (wpAny_notOrdered_dict hnew.typeIs ?_)
  show wpAny _ _ (pure (s.heap.objs.size, [Value.ref l])) _ _ _
  refine wpAny_pure ?_
  show wpAny _ _ (Builtin.Dict.updateFrom "dict.__init__" s.heap.objs.size (.ref l) [] .none) _ _ _
  unfold Builtin.Dict.updateFrom
  have hl₁ := I₁.k _ _ hk
  refine wpAny_bind (wpAny_typeOf (T := "list") ⟨_, hl₁, hc⟩ ?_)
  rw [if_pos (by decide)]
  refine wpAny_bind (getAttrQ_miss_list hl₁ hc hd hdd list_keys_none (by decide) ok.h (fun h₂ tk₂ hk₂ => ?_) (by decide))
  rw [if_pos (by rfl)]
  have I₂ := I₁.ext tk₂ hk₂
  refine wpAny_bind (wpAny_rule (wpAny_bind (wpAny_pyIter_list ⟨_, I₂.k _ _ hk, hc, m, hd⟩ ?_)))
  have hf₂ := Inv.none_of_size (Nat.le_refl h₂.objs.size)
  have I₃ := I₂.allocY (a := h₂.objs.size) (o := { cls := .type "list_iterator", data := .fields #[.ref l, .int 0 0] }) (h' := h₂.push { cls := .type "list_iterator", data := .fields #[.ref l, .int 0 0] }) tk₂ (fun _ _ e => Heap.get?_push_of_some _ e) hf₂ (Heap.get?_push_size _ rfl)
  have hYit := I₂.freshY hf₂
  have hnew₂ := hk₂ _ _ (Heap.get?_push_size s.heap (o := { cls := .type "dict", data := .dict #[] }) rfl)
  have hnit : s.heap.objs.size ≠ h₂.objs.size := fun e => by rw [e, hf₂] at hnew₂; cases hnew₂
  refine wpAny_pure ⟨plainId_quiet plain_updloop _, ?_⟩
  refine dictLoop ps (pre := []) (kvs := []) ok.h (.list rfl rfl hk hc hd (by simpa using q)) I₃ (HM.set_self ..) (Heap.get?_push_of_some _ hnew₂) hnit (by rw [HM.set_ne _ _ hnit]; exact hYd) (I.freshK hf) (I.freshP hf) ⟨#[], 0, ⟨rfl, rfl, rfl⟩, rfl, fun e he => by simp at he, .nil, List.nodup_nil⟩ .nil (by simpa using hnd) (by simpa using hsz) fun s' od' kvs' I' hod' hdo hkv => ?_
  refine ⟨rfl, ?_⟩
  have hle : HM.le K (K.set s.heap.objs.size od') := HM.le_set (I.freshK hf)
  have hs : (s.heap.objs.size == sysModules) = false := by
    obtain ⟨b, os, hos, hlt⟩ := hsys
    refine beq_eq_false_iff_ne.mpr fun e => ?_
    have h1 := Heap.lt_size (I.k _ _ (I.top _ _ hos))
    rw [e] at h1
    exact absurd (Nat.lt_trans hlt h1) (Nat.lt_irrefl _)
  refine ⟨_, hle, ⟨fun b x e => ?_, fun b x e => ?_, fun b x e => ?_, I'.top.trans hle, ?_, I.py, I'.tab, I'.os, I'.gens⟩, Rep.dictOf (C := C) (HM.set_self ..) hs hdo (by simpa using hkv.mono hle)⟩
  · by_cases q : b = s.heap.objs.size
    · subst q; rw [HM.set_self] at e; cases e; exact hod'
    · rw [HM.set_ne _ _ q] at e; exact I'.k b x e
  · refine I'.y b x ?_
    have q2 : b ≠ h₂.objs.size := fun q => by rw [q, hYit] at e; cases e
    rw [HM.del_ne _ q2, HM.set_ne _ _ q2]; exact e
  · have q : b ≠ s.heap.objs.size := fun q => by rw [q, hYd] at e; cases e
    rw [HM.set_ne _ _ q]; exact I.dj b x e
  · rw [HM.set_ne _ _ (I.freshP hf)]; exact I.pk

theorem Ev.dictEmpty {pos : Pos} (hsys : ∃ a o, C.K0 a = some o ∧ sysModules < a) : Ev C n sc ρ (.Dict [] [] pos) (dictD []) := by
  intro A K Y env s E a R I
  refine wpAny_Dict_empty ?_
  have hf := Inv.none_of_size (Nat.le_refl s.heap.objs.size)
  have hle : HM.le K (K.set s.heap.objs.size { cls := .type "dict", data := .dict #[] }) := HM.le_set (I.freshK hf)
  have hs : (s.heap.objs.size == sysModules) = false := by
    obtain ⟨b, os, hos, hlt⟩ := hsys
    refine beq_eq_false_iff_ne.mpr fun e => ?_
    have h1 := Heap.lt_size (I.k _ _ (I.top _ _ hos))
    rw [e] at h1
    exact absurd (Nat.lt_trans hlt h1) (Nat.lt_irrefl _)
  exact ⟨_, hle, I.allocK s.toks (fun _ _ e => Heap.get?_push_of_some _ e) hf (Heap.get?_push_size _ rfl), .dict (HM.set_self ..) hs .nil⟩

theorem RepKv.mapOf {K Y : HM} {s : Shared} {a : Addr} {es : Array DictEntry} {m : Nat} {ps : List (Int × PyData)} (I : Inv C K Y s) (hK : K a = some ⟨.type "dict", none, .dict es m, #[]⟩) (r : RepKv K es.toList (ps.map fun p => (.int p.1, p.2))) :
    ∃ f, s.heap.MapOf (intKind C.prog C.w) a f ∧ ∀ k, match ps.lookup k with | some d => ∃ v, f k = some v ∧ Rep K v d | none => f k = none := by
  refine ⟨findBy (intKind C.prog C.w).is es, ⟨_, es, m, I.k _ _ hK, ⟨rfl, rfl, rfl⟩, rfl, ?_, fun _ => rfl⟩, ?_⟩
  · have : ∀ (l : List DictEntry) (ps : List (Int × PyData)), RepKv K l (ps.map fun p => (.int p.1, p.2)) → ∀ e ∈ l, ∃ k, (intKind C.prog C.w).is k e.key = true ∧ e.hash = (intKind C.prog C.w).hash k := by
      intro l
      induction l with
      | nil => intro ps r e he; cases he
      | cons e0 l ih =>
        intro ps r e he
        cases ps with
        | nil => cases r
        | cons p ps =>
          cases r with
          | cons h1 h2 h3 h4 =>
            rcases List.mem_cons.mp he with rfl | he
            · exact ⟨p.1, by rw [h1]; simp [intKind, Value.isInt], h2⟩
            · exact ih ps h4 e he
    exact fun e he => this es.toList ps r e (by simpa using he)
  · intro k
    obtain ⟨l⟩ := es
    simp only [findBy, List.find?_toArray] at r ⊢
    have : ∀ (l : List DictEntry) (ps : List (Int × PyData)), RepKv K l (ps.map fun p => (.int p.1, p.2)) → match ps.lookup k with | some d => ∃ v, ((l.find? fun e => (intKind C.prog C.w).is k e.key).map (·.val)) = some v ∧ Rep K v d | none => ((l.find? fun e => (intKind C.prog C.w).is k e.key).map (·.val)) = none := by
      intro l
      induction l with
      | nil =>
        intro ps r
        cases ps with
        | nil => rfl
        | cons p ps => cases r
      | cons e0 l ih =>
        intro ps r
        cases ps with
        | nil => cases r
        | cons p ps =>
          cases r with
          | cons h1 h2 h3 h4 =>
            have his : (intKind C.prog C.w).is k e0.key = decide (k = p.1) := by
              rw [h1]; simp only [intKind, Value.isInt]
              by_cases q : k = p.1
              · subst q; simp
              · simp [q, Ne.symm q]
            obtain ⟨p1, p2⟩ := p
            simp only [List.lookup_cons, List.find?_cons, his]
            by_cases q : k = p1
            · subst q; simp only [beq_self_eq_true, decide_true, Option.map_some]; exact ⟨_, rfl, h3⟩
            · rw [beq_eq_false_iff_ne.mpr q, decide_eq_false q]; exact ih ps h4
    exact this l ps r

theorem Rep.map {K Y : HM} {s : Shared} {v : Value} {ps : List (Int × PyData)} (I : Inv C K Y s) (r : Rep K v (dictD ps)) :
    ∃ a f, v = .ref a ∧ (a == sysModules) = false ∧ s.heap.NoDictAt (.ref a) ∧ s.heap.MapOf (intKind C.prog C.w) a f ∧ ∀ k, match ps.lookup k with | some d => ∃ v, f k = some v ∧ Rep K v d | Option.none => f k = Option.none := by
  unfold dictD at r
  cases r with
  | dict hk hs r =>
    obtain ⟨f, h1, h2⟩ := RepKv.mapOf I hk r
    exact ⟨_, f, rfl, hs, ⟨_, I.k _ _ hk, rfl⟩, h1, h2⟩

theorem Bin.itemD {ps : List (Int × PyData)} {k : Int} {d : PyData} (h : ps.lookup k = some d) : Bin C n getItem (dictD ps) (.int k) d := by
  intro K Y v u r₁ r₂ A s E ok I
  cases r₂
  obtain ⟨a, f, rfl, hs, _, hm, hf⟩ := r₁.map I
  have := hf k
  rw [h] at this
  obtain ⟨v, hv, rv⟩ := this
  exact wpAny_getItem_of (knd := intKind C.prog C.w) (k := k) (by simp [intKind, Value.isInt]) hm hv (.mk (I.tok _) rv)
theorem Bin.inD {ps : List (Int × PyData)} {k : Int} : Bin C n (compareOp .In) (.int k) (dictD ps) (.bool (ps.lookup k).isSome) := by
  intro K Y v u r₁ r₂ A s E ok I
  cases r₁
  obtain ⟨a, f, rfl, hs, _, hm, hf⟩ := r₂.map I
  have := hf k
  refine wpAny_in_of (knd := intKind C.prog C.w) (k := k) (by simp [intKind, Value.isInt]) hs hm (.mk (I.tok _) ?_)
  cases hl : ps.lookup k with
  | none => rw [hl] at this; rw [this]; exact .bool _
  | some d => rw [hl] at this; obtain ⟨v, hv, _⟩ := this; rw [hv]; exact .bool _
theorem dict_type (K Y : HM) (v : Value) (s : Shared) {ps : List (Int × PyData)} (r : Rep K v (dictD ps)) (I : Inv C K Y s) : s.TypeIs v "dict" := by
  obtain ⟨a, f, rfl, hs, _, hm, hf⟩ := r.map I; exact hm.typeIs
theorem Ev.itemD {value slice : Expr} {pos : Pos} {ps : List (Int × PyData)} {i : Int} {d : PyData} (hv : Ev C n sc ρ value (dictD ps)) (hs : Ev C n sc ρ slice (.int i)) (h : ps.lookup i = some d)
    (ns : NoSlice slice := by intro _ _; rfl) : Ev C n sc ρ (.Subscript value slice pos) d := hv.sub hs ns (fun K Y v s => dict_type K Y v s) slot_dict_getitem.lookup (Bin.itemD h)

theorem Ev.dictGet {x : Str} {px apos pos : Pos} {ek ed : Expr} {ps : List (Int × PyData)} {k : Int} {dflt r : PyData} (hx : ρ.lookup x = some (.val (dictD ps))) (hk : Ev C n sc ρ ek (.int k)) (hd : Ev C n sc ρ ed dflt) (hr : (ps.lookup k).getD dflt = r)
    (hst : ∀ y p, ek ≠ .Starred y p) (hst' : ∀ y p, ed ≠ .Starred y p) (hl : apos.endLine == pos.line := by rfl) (hdb : (x == ("__debug__" : Str)) = false := by decide) :
    Ev C n sc ρ (.Call (.Attribute (.Name x px) "get" apos) [ek, ed] [] pos) r := by
  intro A K Y env s E a R I
  obtain ⟨v, V, r₀⟩ := R.vars x _ hx
  obtain ⟨da, f₀, rfl, hs, hnd, hm, _⟩ := r₀.map I
  refine MethodCall_ (pl := (do return (← importBound (.Name x px) env).getD true)) (wpAny_Name (V.load I R.fk (getMethod_builtin hm.typeIs PySem.F.plainAttrs_dict PySem.F.slot_dict_get (by rfl) (fun b e => by cases e; exact hnd) ?_)) hdb) ?_
  · rw [starEach_plain hst, starEach_plain hst']
    refine wpAny_dict_get2 (knd := intKind C.prog C.w) hs ?_
    refine hk.use a R I fun u s₁ K₁ l₁ I₁ r₁ R₁ => hd.use a R₁ I₁ fun dv s₂ K₂ l₂ I₂ r₂ R₂ => ?_
    cases r₁ with
    | int _ t =>
    obtain ⟨b, f, e, _, _, hm', hf⟩ := ((r₀.mono l₁).mono l₂).map I₂
    cases e
    refine ⟨k, f, by simp [intKind, Value.isInt], hm', K₂, l₁.trans l₂, I₂.tok _, ?_⟩
    have := hf k
    subst hr
    cases hlk : ps.lookup k with
    | none => rw [hlk] at this; rw [this]; exact r₂
    | some d => rw [hlk] at this; obtain ⟨v, hv, rv⟩ := this; rw [hv]; exact rv
  · have hl' : (apos.endLine == pos.line) = true := hl
    show (do
      let ov ← eval (.Name x px) env
      standAt apos.atName
      methodCall (.Name x px) "get" apos pos env ov 2 (backTo pos (starEach [ek, ed] env)) []) = _
    unfold methodCall
    have hf : methodCallForm 2 (backTo pos (starEach [ek, ed] env)) [] = true := by
      rw [starEach_plain hst, starEach_plain hst']; rfl
    simp only [hf, calleeOf, if_true, methodCallPos, Bool.not_true, Bool.false_or, hl']
    rfl
end
end Sq
end

section
set_option autoImplicit false
set_option linter.unusedVariables false
open PySem PyProof.Rows PySem.W
namespace Sq

def KWp {α : Type} (lt : Nat → Nat → Bool) (n : Nat) : KasT α → (α → Prop) → Prop
  | .ret a, Q => Q a
  | .ask i j k, Q => i < n ∧ j < n ∧ i ≠ j ∧ KWp lt n (k (lt i j)) Q

theorem KWp.mono {α : Type} {lt : Nat → Nat → Bool} {n : Nat} {Q Q' : α → Prop} (h : ∀ a, Q a → Q' a) : ∀ {t : KasT α}, KWp lt n t Q → KWp lt n t Q'
  | .ret a, x => h a x
  | .ask i j k, x => ⟨x.1, x.2.1, x.2.2.1, KWp.mono h x.2.2.2⟩
theorem KWp.bind {α β : Type} {lt : Nat → Nat → Bool} {n : Nat} {Q : β → Prop} {f : α → KasT β} : ∀ {t : KasT α}, KWp lt n t (fun a => KWp lt n (f a) Q) → KWp lt n (t.bind f) Q
  | .ret a, x => x
  | .ask i j k, x => ⟨x.1, x.2.1, x.2.2.1, KWp.bind x.2.2.2⟩
theorem KWp.run {α : Type} {lt : Nat → Nat → Bool} {n : Nat} {cmp : Nat → Nat → (Bool → Shared → Prop) → Shared → Prop} {s : Shared} (hc : ∀ i j C, i < n → j < n → i ≠ j → C (lt i j) s → cmp i j C s) {Q : α → Prop} {G : α → Shared → Prop} (hG : ∀ a, Q a → G a s) :
    ∀ {t : KasT α}, KWp lt n t Q → t.kasWp cmp G s
  | .ret a, x => hG a x
  | .ask i j k, x => hc i j _ x.1 x.2.1 x.2.2.1 (KWp.run hc hG x.2.2.2)

structure LtOk (lt : Nat → Nat → Bool) (n : Nat) : Prop where
  trans : ∀ i j k, i < n → j < n → k < n → lt i j = true → lt j k = true → lt i k = true
  tri : ∀ i j, i < n → j < n → i ≠ j → lt i j = !lt j i

abbrev at_ (p : Array Nat) (i : Nat) : Nat := p.getD i 0
structure POk (n : Nat) (p : Array Nat) : Prop where
  size : p.size = n
  lt : ∀ i, i < n → at_ p i < n
  inj : ∀ i j, i < n → j < n → at_ p i = at_ p j → i = j
  perm : p.Perm (List.range n).toArray

theorem POk.of {n : Nat} {p : Array Nat} (h : p.Perm (List.range n).toArray) : POk n p := by
  have hl : p.toList.Perm (List.range n) := by simpa using Array.perm_iff_toList_perm.mp h
  have hs : p.size = n := by have := hl.length_eq; simpa using this
  have hnd : p.toList.Nodup := hl.nodup_iff.mpr List.nodup_range
  have get : ∀ i, i < n → p.toList[i]? = some (at_ p i) := fun i hi => by
    have : i < p.size := by omega
    simp [at_, Array.getD, this]
  refine ⟨hs, fun i hi => ?_, fun i j hi hj e => ?_, h⟩
  · have hm : at_ p i ∈ p.toList := List.mem_of_getElem? (get i hi)
    exact List.mem_range.mp (hl.mem_iff.mp hm)
  · have h1 := get i hi
    have h2 := get j hj
    rw [e] at h1
    have hi' : i < p.toList.length := by simpa [hs] using hi
    have hj' : j < p.toList.length := by simpa [hs] using hj
    exact (List.getElem?_inj hi' hnd).mp (h1.trans h2.symm)

theorem at_of_get {p q : Array Nat} {i j : Nat} (h : p[i]? = q[j]?) : at_ p i = at_ q j := by
  have e : ∀ (p : Array Nat) (i : Nat), at_ p i = (p[i]?).getD 0 := fun p i => by
    by_cases hi : i < p.size <;> simp [at_, Array.getD, hi]
  rw [e, e, h]

section
variable {lt : Nat → Nat → Bool} {n : Nat}
def Up (lt : Nat → Nat → Bool) (p : Array Nat) (m : Nat) : Prop := ∀ i j, i < j → j < m → lt (at_ p i) (at_ p j) = true
def Dn (lt : Nat → Nat → Bool) (p : Array Nat) (m : Nat) : Prop := ∀ i j, i < j → j < m → lt (at_ p j) (at_ p i) = true

theorem Up.step (L : LtOk lt n) {p : Array Nat} (P : POk n p) {m : Nat} (h1 : 1 ≤ m) (hm : m < n) (h : Up lt p m) (hl : lt (at_ p (m - 1)) (at_ p m) = true) : Up lt p (m + 1) := by
  intro i j hij hj
  by_cases q : j < m
  · exact h i j hij q
  · have : j = m := by omega
    subst this
    by_cases q' : i = j - 1
    · subst q'; exact hl
    · exact L.trans _ _ _ (P.lt i (by omega)) (P.lt (j - 1) (by omega)) (P.lt j hm) (h i (j - 1) (by omega) (by omega)) hl
theorem Dn.step (L : LtOk lt n) {p : Array Nat} (P : POk n p) {m : Nat} (h1 : 1 ≤ m) (hm : m < n) (h : Dn lt p m) (hl : lt (at_ p m) (at_ p (m - 1)) = true) : Dn lt p (m + 1) := by
  intro i j hij hj
  by_cases q : j < m
  · exact h i j hij q
  · have : j = m := by omega
    subst this
    by_cases q' : i = j - 1
    · subst q'; exact hl
    · exact L.trans _ _ _ (P.lt j hm) (P.lt (j - 1) (by omega)) (P.lt i (by omega)) hl (h i (j - 1) (by omega) (by omega))

theorem POk.ask {p : Array Nat} (P : POk n p) {i j : Nat} (hi : i < n) (hj : j < n) (hne : i ≠ j) : at_ p i < n ∧ at_ p j < n ∧ at_ p i ≠ at_ p j := ⟨P.lt i hi, P.lt j hj, fun e => hne (P.inj i j hi hj e)⟩

theorem wp_asc (L : LtOk lt n) {p : Array Nat} (P : POk n p) : ∀ (f m : Nat), 1 ≤ m → m + f ≤ n → Up lt p m → KWp lt n (kas_asc p f m) (fun r => m ≤ r ∧ r ≤ m + f ∧ Up lt p r ∧ (r < m + f → lt (at_ p r) (at_ p (r - 1)) = true))
  | 0, m, h1, hf, h => ⟨Nat.le_refl _, Nat.le_refl _, h, fun q => by omega⟩
  | f + 1, m, h1, hf, h => by
    obtain ⟨a1, a2, a3⟩ := P.ask (i := m) (j := m - 1) (by omega) (by omega) (by omega)
    refine ⟨a1, a2, a3, ?_⟩
    cases hc : lt (at_ p m) (at_ p (m - 1)) with
    | true => simp only [hc, if_true]; exact ⟨Nat.le_refl _, by omega, h, fun _ => hc⟩
    | false =>
      simp only [hc, Bool.false_eq_true, if_false]
      refine (wp_asc L P f (m + 1) (by omega) (by omega) (h.step L P h1 (by omega) ?_)).mono fun r hr => ⟨by omega, by omega, hr.2.2.1, fun q => hr.2.2.2 (by omega)⟩
      rw [L.tri _ _ a2 a1 (Ne.symm a3), hc]; rfl

theorem wp_desc (L : LtOk lt n) {p : Array Nat} (P : POk n p) : ∀ (f m : Nat), 1 ≤ m → m + f ≤ n → Dn lt p m → KWp lt n (kas_desc f p m 0) (fun r => ∃ k, r = (p, k, 0) ∧ m ≤ k ∧ k ≤ m + f ∧ Dn lt p k)
  | 0, m, h1, hf, h => ⟨m, rfl, Nat.le_refl _, Nat.le_refl _, h⟩
  | f + 1, m, h1, hf, h => by
    obtain ⟨a1, a2, a3⟩ := P.ask (i := m) (j := m - 1) (by omega) (by omega) (by omega)
    refine ⟨a1, a2, a3, ?_⟩
    cases hc : lt (at_ p m) (at_ p (m - 1)) with
    | true =>
      simp only [if_true, Nat.lt_irrefl, gt_iff_lt, if_false]
      exact (wp_desc L P f (m + 1) (by omega) (by omega) (h.step L P h1 (by omega) hc)).mono fun r ⟨k, e, h1, h2, h3⟩ => ⟨k, e, by omega, by omega, h3⟩
    | false =>
      simp only [Bool.false_eq_true, if_false]
      have hd : lt (at_ p (m - 1)) (at_ p m) = true := by rw [L.tri _ _ a2 a1 (Ne.symm a3), hc]; rfl
      refine ⟨a2, a1, Ne.symm a3, ?_⟩
      rw [hd]
      exact ⟨m, rfl, Nat.le_refl _, by omega, h⟩

theorem POk.rev {p : Array Nat} (P : POk n p) (i j : Nat) : POk n (kas_rev p i j) := POk.of ((mirror_perm _ _ _ _).trans P.perm)
theorem POk.bub {p : Array Nat} (P : POk n p) (i j : Nat) : POk n (bubble p i j) := POk.of ((bubble_perm _ _ _).trans P.perm)

theorem Dn.rev {p : Array Nat} (P : POk n p) {m : Nat} (hm : m ≤ n) (h : Dn lt p m) : Up lt (kas_rev p 0 m) m := by
  have e : ∀ k, k < m → at_ (kas_rev p 0 m) k = at_ p (m - 1 - k) := fun k hk => at_of_get (by
    unfold kas_rev
    rw [getElem?_mirror_all (by rw [P.size]; exact hm), if_pos ⟨Nat.zero_le _, hk⟩, Nat.zero_add])
  intro i j hij hj
  rw [e i (by omega), e j hj]
  exact h (m - 1 - j) (m - 1 - i) (by omega) (by omega)

theorem wp_tail3 (L : LtOk lt n) {p : Array Nat} (P : POk n p) {m : Nat} (h1 : 1 ≤ m) (hm : m ≤ n) (h : Dn lt p m) : KWp lt n (kas_tail3 m n p) (fun r => POk n r.2 ∧ 1 ≤ r.1 ∧ r.1 ≤ n ∧ Up lt r.2 r.1) := by
  unfold kas_tail3
  have P' := P.rev 0 m
  exact KWp.bind ((wp_asc L P' (n - m) m h1 (by omega) (h.rev P hm)).mono fun r hr => ⟨P', by omega, by omega, hr.2.2.1⟩)

theorem wp_count (L : LtOk lt n) (hn : 2 ≤ n) {p : Array Nat} (P : POk n p) : KWp lt n (kas_count n p) (fun r => POk n r.2 ∧ 1 ≤ r.1 ∧ r.1 ≤ n ∧ Up lt r.2 r.1) := by
  unfold kas_count
  refine KWp.bind ((wp_asc L P (n - 1) 1 (Nat.le_refl _) (by omega) (fun i j hij hj => by omega)).mono fun m hm => ?_)
  obtain ⟨h1, h2, hup, hstop⟩ := hm
  by_cases e : (m == n) = true
  · rw [if_pos e]; exact ⟨P, h1, by omega, hup⟩
  · rw [if_neg e]
    have hmn : m ≠ n := by simpa using e
    by_cases g : m > 1
    · rw [if_pos g]
      obtain ⟨a1, a2, a3⟩ := P.ask (i := 0) (j := m - 1) (by omega) (by omega) (by omega)
      refine ⟨a1, a2, a3, ?_⟩
      rw [show lt (p.getD 0 0) (p.getD (m - 1) 0) = true from hup 0 (m - 1) (by omega) (by omega)]
      exact ⟨P, h1, by omega, hup⟩
    · rw [if_neg g]
      have : m = 1 := by omega
      subst this
      unfold kas_descPart
      have hd : Dn lt p 2 := by
        intro i j hij hj
        have hj1 : j = 1 := by omega
        have hi0 : i = 0 := by omega
        subst hj1 hi0
        exact hstop (by omega)
      refine KWp.bind ((wp_desc L P (n - 2) 2 (by omega) (by omega) hd).mono ?_)
      rintro r ⟨k, rfl, h3, h4, h5⟩
      simp only [gt_iff_lt, Nat.lt_irrefl, if_false]
      exact wp_tail3 L P (by omega) (by omega) h5

theorem wp_place (L : LtOk lt n) {p : Array Nat} (P : POk n p) {k : Nat} (hk : k < n) (hup : Up lt p k) : ∀ (f l r : Nat), l ≤ r → r ≤ k → r - l ≤ f → (∀ i, i < l → lt (at_ p i) (at_ p k) = true) → (∀ i, r ≤ i → i < k → lt (at_ p k) (at_ p i) = true) →
    KWp lt n (kas_place p k f l r) (fun l' => l' ≤ k ∧ (∀ i, i < l' → lt (at_ p i) (at_ p k) = true) ∧ (∀ i, l' ≤ i → i < k → lt (at_ p k) (at_ p i) = true))
  | 0, l, r, hlr, hrk, hf, h1, h2 => ⟨by omega, h1, fun i hi hk' => h2 i (by omega) hk'⟩
  | f + 1, l, r, hlr, hrk, hf, h1, h2 => by
    unfold kas_place
    by_cases g : l ≥ r
    · rw [if_pos g]; exact ⟨by omega, h1, fun i hi hk' => h2 i (by omega) hk'⟩
    · rw [if_neg g]
      obtain ⟨a1, a2, a3⟩ := P.ask (i := k) (j := (l + r) / 2) hk (by omega) (by omega)
      refine ⟨a1, a2, a3, ?_⟩
      cases hc : lt (p.getD k 0) (p.getD ((l + r) / 2) 0) with
      | true =>
        show KWp lt n (kas_place p k f l ((l + r) / 2)) _
        refine wp_place L P hk hup f l ((l + r) / 2) (by omega) (by omega) (by omega) h1 fun i hi hk' => ?_
        by_cases q : i = (l + r) / 2
        · subst q; exact hc
        · exact L.trans _ _ _ a1 a2 (P.lt i (by omega)) hc (hup _ _ (by omega) hk')
      | false =>
        show KWp lt n (kas_place p k f ((l + r) / 2 + 1) r) _
        have hd : lt (at_ p ((l + r) / 2)) (at_ p k) = true := by rw [L.tri _ _ a2 a1 (Ne.symm a3)]; show (!lt (p.getD k 0) (p.getD ((l + r) / 2) 0)) = true; rw [hc]; rfl
        refine wp_place L P hk hup f ((l + r) / 2 + 1) r (by omega) hrk (by omega) (fun i hi => ?_) h2
        by_cases q : i = (l + r) / 2
        · subst q; exact hd
        · exact L.trans _ _ _ (P.lt i (by omega)) a2 a1 (hup _ _ (by omega) (by omega)) hd

theorem Up.bub {p : Array Nat} (P : POk n p) {k l : Nat} (hk : k < n) (hl : l ≤ k) (hup : Up lt p k) (h1 : ∀ i, i < l → lt (at_ p i) (at_ p k) = true) (h2 : ∀ i, l ≤ i → i < k → lt (at_ p k) (at_ p i) = true) : Up lt (bubble p k (k - l)) (k + 1) := by
  have e : ∀ i, i ≤ k → at_ (bubble p k (k - l)) i = if i = l then at_ p k else if l < i then at_ p (i - 1) else at_ p i := fun i hi => by
    have g := getElem?_bubble (xs := p) (src := k) (by rw [P.size]; exact hk) (k - l) (by omega) i
    rw [show k - (k - l) = l by omega] at g
    by_cases q : i = l
    · rw [if_pos q] at g ⊢; exact at_of_get g
    · rw [if_neg q] at g ⊢
      by_cases q' : l < i
      · rw [if_pos ⟨q', hi⟩] at g; rw [if_pos q']; exact at_of_get g
      · rw [if_neg (by omega)] at g; rw [if_neg q']; exact at_of_get g
  intro i j hij hj
  rw [e i (by omega), e j (by omega)]
  by_cases qi : i = l
  · rw [if_pos qi, if_neg (by omega), if_pos (by omega)]; exact h2 _ (by omega) (by omega)
  · rw [if_neg qi]
    by_cases qi' : l < i
    · rw [if_pos qi', if_neg (by omega), if_pos (by omega)]; exact hup _ _ (by omega) (by omega)
    · rw [if_neg qi']
      by_cases qj : j = l
      · rw [if_pos qj]; exact h1 i (by omega)
      · rw [if_neg qj]
        by_cases qj' : l < j
        · rw [if_pos qj']
          by_cases q0 : i = j - 1
          · omega
          · exact hup _ _ (by omega) (by omega)
        · rw [if_neg qj']; exact hup _ _ hij (by omega)

theorem wp_bin (L : LtOk lt n) : ∀ (f : Nat) (p : Array Nat) (k : Nat), POk n p → k + f = n → Up lt p k → KWp lt n (kas_bin f p k) (fun q => POk n q ∧ Up lt q n)
  | 0, p, k, P, hf, h => ⟨P, by rw [Nat.add_zero] at hf; subst hf; exact h⟩
  | f + 1, p, k, P, hf, h => by
    unfold kas_bin
    refine KWp.bind ((wp_place L P (by omega) h k 0 k (Nat.zero_le _) (Nat.le_refl _) (by omega) (fun i hi => by omega) (fun i h1 h2 => by omega)).mono fun l hl => ?_)
    exact wp_bin L f _ (k + 1) (P.bub _ _) (by omega) (h.bub P (by omega) hl.1 hl.2.1 hl.2.2)

theorem wp_sort (L : LtOk lt n) (hn : 2 ≤ n) : KWp lt n (kas_sort n) (fun q => POk n q ∧ Up lt q n) := by
  unfold kas_sort
  refine KWp.bind ((wp_count L hn (POk.of (.refl _))).mono fun r hr => ?_)
  obtain ⟨P, h1, h2, h3⟩ := hr
  by_cases g : r.1 < n
  · rw [if_pos g, show max r.1 1 = r.1 by omega]
    exact wp_bin L _ _ _ P (by omega) h3
  · rw [if_neg g]
    have : r.1 = n := by omega
    rw [this] at h3
    exact ⟨P, h3⟩
end
end Sq
end

section
set_option autoImplicit false
set_option linter.unusedVariables false
open PySem PyProof.Rows PySem.W
namespace Sq

section
variable {prog : Program} {w : World} {A : Around} {E : Value → Shared → Prop} {s : Shared}

theorem list_sort_by {a : Addr} {vs : List Value} {n : Nat} {G : Array Nat → Prop} {P : PySem.Fin → Shared → Prop} (ho : s.heap.get? a = some (seqObj "list" vs.toArray n)) (h2 : 2 ≤ vs.length) (h64 : vs.length < 64)
    (hask : ∀ h', (∀ b o, b ≠ a → s.heap.get? b = some o → h'.get? b = some o) → wpAny (model prog w) A (keyKind' vs.toArray) (fun κ s' => (kas_sort vs.length).kasWp (kas_ask prog w A κ vs) (fun p s'' => s'' = { s with heap := h' } ∧ G p) s') (fun _ _ => False) { s with heap := h' })
    (k : ∀ (p : Array Nat) h' c, G p → (∀ b o, b ≠ a → s.heap.get? b = some o → h'.get? b = some o) → h'.get? a = some (seqObj "list" (List.toArray (p.toList.map fun i => vs.getD i Value.none)) c) → P (.done (.ret .none)) { s with heap := h' }) :
    wpAny (model prog w) A (Builtin.«list.sort» ⟨[.ref a], []⟩) P E s := by
  have ha : a < s.heap.objs.size := Heap.lt_size ho
  have s1 := Heap.SameBut.update s.heap a (Obj.mapSeq fun _ => (#[] : Array Value))
  obtain ⟨e1, ho1⟩ : ∃ e1, (s.heap.update a (Obj.mapSeq fun _ => (#[] : Array Value))).get? a = some (seqObj "list" #[] e1) := ⟨_, get?_update_seq ho fun _ => #[]⟩
  have keep : ∀ b o, b ≠ a → s.heap.get? b = some o → (((s.heap.update a (Obj.mapSeq fun _ => (#[] : Array Value))).push (seqObj "tuple" vs.toArray 0)).push (seqObj "list" #[] 0)).get? b = some o := fun b o hb e =>
    Heap.get?_push_of_some _ (Heap.get?_push_of_some _ ((s1.2 b hb).trans e))
  have hoa : (((s.heap.update a (Obj.mapSeq fun _ => (#[] : Array Value))).push (seqObj "tuple" vs.toArray 0)).push (seqObj "list" #[] 0)).get? a = some (seqObj "list" #[] e1) := Heap.get?_push_of_some _ (Heap.get?_push_of_some _ ho1)
  have ask := hask _ keep
  rw [list_sort_plain]
  refine wpAny_bind (listItems_at ho rfl ?_)
  refine wpAny_bind (listUpdate_at ho rfl ?_ (by rw [List.size_toArray, sizeLine_eq]; omega) (Nat.zero_le _))
  refine wpAny_bind (seqEpoch_at ho1 rfl ?_)
  refine wpAny_bind (wpAny_newTuple ?_ (by show vs.length ≤ _; rw [sizeLine_eq]; omega))
  refine wpAny_bind (wpAny_newList ?_ (Nat.zero_le _))
  refine wpAny_holding ?_
  show wpAny (model prog w) A _ P E { s with heap := ((s.heap.update a (Obj.mapSeq fun _ => (#[] : Array Value))).push (seqObj "tuple" vs.toArray 0)).push (seqObj "list" #[] 0) }
  dsimp only
  have hn2 : ¬ vs.toArray.size < 2 := by rw [List.size_toArray]; omega
  rw [if_neg hn2, if_neg hn2]
  refine wpAny_bind (wpAny_mono ask (fun κ s0 hk => ?_) fun _ _ x => x.elim)
  refine wpAny_bind (wpAny_mono (kat_run (Q := fun st' s' => ∃ p : Array Nat, p.size = vs.length ∧ arrOf st' = p.map (kas_item (vs.toArray.zip vs.toArray)) ∧ failedOf st' = none ∧ s' = { s with heap := ((s.heap.update a (Obj.mapSeq fun _ => (#[] : Array Value))).push (seqObj "tuple" vs.toArray 0)).push (seqObj "list" #[] 0) } ∧ G p)
    rfl h2 h64 (fun p' st' s' a1 a2 a3 a4 => ⟨p', a1, a2, a3, a4⟩) hk) ?_ fun _ _ e => e)
  rintro ⟨⟨⟩, st'⟩ s' ⟨p, hp, har, hf, rfl, hg⟩
  dsimp only
  have hout := kat_snds rfl har
  have hsz : (List.toArray (p.toList.map fun i => vs.getD i Value.none)).size = vs.length := by rw [List.size_toArray, List.length_map, Array.length_toList, hp]
  rw [hout]
  have s2 := Heap.SameBut.update (((s.heap.update a (Obj.mapSeq fun _ => (#[] : Array Value))).push (seqObj "tuple" vs.toArray 0)).push (seqObj "list" #[] 0)) a (Obj.mapSeq fun _ => List.toArray (p.toList.map fun i => vs.getD i Value.none))
  obtain ⟨c2, hc2⟩ : ∃ c2, ((((s.heap.update a (Obj.mapSeq fun _ => (#[] : Array Value))).push (seqObj "tuple" vs.toArray 0)).push (seqObj "list" #[] 0)).update a (Obj.mapSeq fun _ => List.toArray (p.toList.map fun i => vs.getD i Value.none))).get? a = some (seqObj "list" (List.toArray (p.toList.map fun i => vs.getD i Value.none)) c2) := ⟨_, get?_update_seq hoa fun _ => List.toArray (p.toList.map fun i => vs.getD i Value.none)⟩
  refine wpAny_bind (seqEpoch_at hoa rfl ?_)
  refine wpAny_bind (listUpdate_at hoa rfl ?_ (Nat.zero_le _) (Nat.le_trans (Nat.le_of_eq hsz) (by rw [sizeLine_eq]; omega)))
  rw [hf]
  simp only [bne_self_eq_false, Bool.false_eq_true, if_false]
  exact wpAny_pure (k p _ c2 hg (fun b o hb e => (s2.2 b hb).trans (keep b o hb e)) hc2)

theorem list_sort_few {a : Addr} {vs : List Value} {n : Nat} {P : PySem.Fin → Shared → Prop} (ho : s.heap.get? a = some (seqObj "list" vs.toArray n)) (h2 : vs.length < 2)
    (k : ∀ h' c, (∀ b o, b ≠ a → s.heap.get? b = some o → h'.get? b = some o) → h'.get? a = some (seqObj "list" vs.toArray c) → P (.done (.ret .none)) { s with heap := h' }) :
    wpAny (model prog w) A (Builtin.«list.sort» ⟨[.ref a], []⟩) P E s := by
  have ha : a < s.heap.objs.size := Heap.lt_size ho
  have s1 := Heap.SameBut.update s.heap a (Obj.mapSeq fun _ => (#[] : Array Value))
  obtain ⟨e1, ho1⟩ : ∃ e1, (s.heap.update a (Obj.mapSeq fun _ => (#[] : Array Value))).get? a = some (seqObj "list" #[] e1) := ⟨_, get?_update_seq ho fun _ => #[]⟩
  have keep : ∀ b o, b ≠ a → s.heap.get? b = some o → (((s.heap.update a (Obj.mapSeq fun _ => (#[] : Array Value))).push (seqObj "tuple" vs.toArray 0)).push (seqObj "list" #[] 0)).get? b = some o := fun b o hb e =>
    Heap.get?_push_of_some _ (Heap.get?_push_of_some _ ((s1.2 b hb).trans e))
  have hoa : (((s.heap.update a (Obj.mapSeq fun _ => (#[] : Array Value))).push (seqObj "tuple" vs.toArray 0)).push (seqObj "list" #[] 0)).get? a = some (seqObj "list" #[] e1) := Heap.get?_push_of_some _ (Heap.get?_push_of_some _ ho1)
  rw [list_sort_plain]
  refine wpAny_bind (listItems_at ho rfl ?_)
  refine wpAny_bind (listUpdate_at ho rfl ?_ (by rw [List.size_toArray, sizeLine_eq]; omega) (Nat.zero_le _))
  refine wpAny_bind (seqEpoch_at ho1 rfl ?_)
  refine wpAny_bind (wpAny_newTuple ?_ (by show vs.length ≤ _; rw [sizeLine_eq]; omega))
  refine wpAny_bind (wpAny_newList ?_ (Nat.zero_le _))
  refine wpAny_holding ?_
  show wpAny (model prog w) A _ P E { s with heap := ((s.heap.update a (Obj.mapSeq fun _ => (#[] : Array Value))).push (seqObj "tuple" vs.toArray 0)).push (seqObj "list" #[] 0) }
  dsimp only
  have hn2 : vs.toArray.size < 2 := by rw [List.size_toArray]; omega
  rw [if_pos hn2, if_pos hn2]
  refine wpAny_bind (wpAny_pure (wpAny_bind (wpAny_pure ?_)))
  have hout : (arrOf (SortSt.mk' general' (vs.toArray.zip vs.toArray) #[] 7 none)).map (·.2) = vs.toArray := by
    show ((vs.toArray.zip vs.toArray).map (·.2)) = _
    apply Array.toList_inj.mp
    simp [List.map_snd_zip]
  show wpAny (model prog w) A (do
      let touched := (← seqEpoch a) != e1
      Builtin.List.listUpdate (.ref a) fun _ => (arrOf (SortSt.mk' general' (vs.toArray.zip vs.toArray) #[] 7 none)).map (·.2)
      if let some e := failedOf (SortSt.mk' general' (vs.toArray.zip vs.toArray) #[] 7 none) then rule "list.sort.comparison-raised"; throw e
      if touched then rule "list.sort.modified"; raiseError "ValueError" "list modified during sort"
      ret .none) P E _
  rw [hout]
  have s2 := Heap.SameBut.update (((s.heap.update a (Obj.mapSeq fun _ => (#[] : Array Value))).push (seqObj "tuple" vs.toArray 0)).push (seqObj "list" #[] 0)) a (Obj.mapSeq fun _ => vs.toArray)
  obtain ⟨c2, hc2⟩ : ∃ c2, ((((s.heap.update a (Obj.mapSeq fun _ => (#[] : Array Value))).push (seqObj "tuple" vs.toArray 0)).push (seqObj "list" #[] 0)).update a (Obj.mapSeq fun _ => vs.toArray)).get? a = some (seqObj "list" vs.toArray c2) := ⟨_, get?_update_seq hoa fun _ => vs.toArray⟩
  refine wpAny_bind (seqEpoch_at hoa rfl ?_)
  refine wpAny_bind (listUpdate_at hoa rfl ?_ (Nat.zero_le _) (by rw [List.size_toArray, sizeLine_eq]; omega))
  have hf : failedOf (SortSt.mk' general' (vs.toArray.zip vs.toArray) #[] 7 none) = none := rfl
  rw [hf]
  simp only [bne_self_eq_false, Bool.false_eq_true, if_false]
  exact wpAny_pure (k _ c2 (fun b o hb e => (s2.2 b hb).trans (keep b o hb e)) hc2)

theorem sorted_by {l : Addr} {vs : List Value} {Q : Value → Shared → Prop} (hl : s.heap.IsList l vs.toArray) (h64 : vs.length < 64)
    (h : ∀ D s₁, s.heap.get? D = none → (∀ b o, s.heap.get? b = some o → s₁.heap.get? b = some o) → (∃ h₁, s₁ = { s with heap := h₁ }) → s₁.heap.get? D = some (seqObj "list" vs.toArray 0) →
      wpAny (model prog w) A.in1.in1 (Builtin.«list.sort» ⟨[.ref D], []⟩) (fun f s' => f = .done (.ret .none) ∧ Q (.ref D) s') (fun _ _ => False) s₁) :
    wpAny (model prog w) A (call (.builtin "sorted") [.ref l]) Q E s := by
  refine Calls.call_function_entry kind_sorted plain_sorted entry_sorted (args_sorted1 _) ?_
  unfold Builtin.«sorted»
  refine wpAny_bind (m := checkCount "sorted" 1 1 _) (wpAny_pure ?_)
  refine wpAny_bind (collect_list hl ?_ (by rw [sizeLine_eq]; omega))
  refine wpAny_bind (wpAny_newList ?_ (by rw [sizeLine_eq]; omega))
  have hsz : ((s.heap.push (seqObj "list" #[] 0)).update s.heap.objs.size (Obj.mapSeq (· ++ vs.toArray))).objs.size = s.heap.objs.size + 1 := by
    rw [Heap.size_update, size_push']
  have hoL : (((s.heap.push (seqObj "list" #[] 0)).update s.heap.objs.size (Obj.mapSeq (· ++ vs.toArray))).push (seqObj "list" vs.toArray 0)).get? (s.heap.objs.size + 1) = some (seqObj "list" vs.toArray 0) := by
    rw [← hsz]; exact Heap.get?_push_size _ rfl
  have keep : ∀ b o, s.heap.get? b = some o → (((s.heap.push (seqObj "list" #[] 0)).update s.heap.objs.size (Obj.mapSeq (· ++ vs.toArray))).push (seqObj "list" vs.toArray 0)).get? b = some o := fun b o q => by
    have hlt : b < s.heap.objs.size := Heap.lt_size q
    rw [Heap.get?_push_ne _ _ _ (by rw [hsz]; exact Nat.ne_of_lt (Nat.lt_succ_of_lt hlt)), Heap.get?_update_ne _ _ _ _ (Nat.ne_of_lt hlt), Heap.get?_push_ne _ _ _ (Nat.ne_of_lt hlt)]
    exact q
  show wpAny _ _ _ _ _ { s with heap := ((s.heap.push (seqObj "list" #[] 0)).update s.heap.objs.size (Obj.mapSeq (· ++ vs.toArray))).push (seqObj "list" vs.toArray 0) }
  rw [hsz]
  refine wpAny_bind (wpAny_holding (wpAny_call_entry slot_list_sort ⟨_, hoL, rfl⟩ entry_list_sort ?body (args_list_sort _)))
  case body =>
    refine wpAny_mono (h (s.heap.objs.size + 1) _ (Inv.none_of_size (Nat.le_succ _)) keep ⟨_, rfl⟩ hoL) (fun f s' hf => ?_) fun _ _ x => x.elim
    obtain ⟨rfl, hq⟩ := hf
    exact ⟨_, rfl, wpAny_pure ⟨_, rfl, hq⟩⟩
end

def key2 : PyData → Option (Int × Int)
  | .tuple (.int a :: .int b :: _) => some (a, b)
  | _ => none
def kLt (d e : PyData) : Prop := ∃ a b c f, key2 d = some (a, b) ∧ key2 e = some (c, f) ∧ (a < c ∨ (a = c ∧ b < f))
theorem kLt.asymm {d e : PyData} (h : kLt d e) (h' : kLt e d) : d = e := by
  obtain ⟨a, b, c, f, h1, h2, h3⟩ := h
  obtain ⟨a', b', c', f', h4, h5, h6⟩ := h'
  rw [h1] at h5; rw [h2] at h4; cases h4; cases h5
  omega

def ltK (ks : List (Int × Int)) (i j : Nat) : Bool := decide ((ks.getD i (0, 0)).1 < (ks.getD j (0, 0)).1) || (decide ((ks.getD i (0, 0)).1 = (ks.getD j (0, 0)).1) && decide ((ks.getD i (0, 0)).2 < (ks.getD j (0, 0)).2))

theorem ltK_ok {ks : List (Int × Int)} (hn : ks.Nodup) : LtOk (ltK ks) ks.length where
  trans i j k hi hj hk h1 h2 := by
    simp only [ltK, Bool.or_eq_true, Bool.and_eq_true, decide_eq_true_eq] at h1 h2 ⊢
    omega
  tri i j hi hj hne := by
    have hd : ks.getD i (0, 0) ≠ ks.getD j (0, 0) := by
      intro e
      rw [List.getD_eq_getElem?_getD, List.getD_eq_getElem?_getD, List.getElem?_eq_getElem hi, List.getElem?_eq_getElem hj] at e
      exact hne ((List.getElem_inj hn).mp e)
    have hd' : ¬ ((ks.getD i (0, 0)).1 = (ks.getD j (0, 0)).1 ∧ (ks.getD i (0, 0)).2 = (ks.getD j (0, 0)).2) := fun ⟨a, b⟩ => hd (Prod.ext a b)
    rw [Bool.eq_iff_iff]
    simp only [ltK, Bool.or_eq_true, Bool.and_eq_true, decide_eq_true_eq, Bool.not_eq_true', Bool.or_eq_false_iff, Bool.and_eq_false_iff, decide_eq_false_iff_not]
    omega
end Sq
end

section
set_option autoImplicit false
set_option linter.unusedVariables false
open PySem PyProof.Rows PySem.W
namespace Sq

theorem key2_tuple {d : PyData} {a b : Int} (h : key2 d = some (a, b)) : ∃ r, d = .tuple (.int a :: .int b :: r) := by
  unfold key2 at h
  split at h
  · cases h; exact ⟨_, rfl⟩
  · cases h

section
variable {C : Cx} {n : Nat} {sc : Scope} {ρ : PEnv}

theorem RepAll.pairInv {K : HM} {vs : List Value} {a b : Int} {r : List PyData} (h : RepAll K vs (.int a :: .int b :: r)) : ∃ t u vs', vs = .int a t :: .int b u :: vs' := by
  cases h with
  | cons h1 h2 =>
    cases h1
    cases h2 with
    | cons h3 h4 => cases h3; exact ⟨_, _, _, rfl⟩

theorem RepAll.tups {K : HM} {h : Heap} (hk : ∀ a o, K a = some o → h.get? a = some o) : ∀ {vs : List Value} {ds : List PyData}, RepAll K vs ds → (∀ d ∈ ds, (key2 d).isSome = true) → ∃ fs, KatTups h vs fs ∧ fs.length = ds.length ∧ ∀ v ∈ fs, ∃ i t, v = .int i t
  | _, _, .nil, _ => ⟨[], .nil, rfl, fun v hv => by cases hv⟩
  | _, _, .cons (d := d) r rs, hd => by
    obtain ⟨fs, h1, h2, h3⟩ := RepAll.tups hk rs fun d' hd' => hd d' (List.mem_cons_of_mem _ hd')
    obtain ⟨⟨a, b⟩, hab⟩ := Option.isSome_iff_exists.mp (hd d (List.mem_cons_self ..))
    obtain ⟨rest, rfl⟩ := key2_tuple hab
    cases r with
    | @tuple ad o ws m _ hK hc hdat q =>
      obtain ⟨t, u, vs', e⟩ := q.pairInv
      have h0 : ws[0]? = some (.int a t) := by rw [← Array.getElem?_toList, e]; rfl
      exact ⟨.int a t :: fs, .cons (hk _ _ hK) hc hdat h0 h1, by simp [h2], fun v hv => by
        rcases List.mem_cons.mp hv with rfl | hv
        · exact ⟨_, _, rfl⟩
        · exact h3 v hv⟩

theorem RepAll.getD {K : HM} {vs : List Value} {ds : List PyData} (h : RepAll K vs ds) (i : Nat) : Rep K (vs.getD i .none) (ds.getD i .none) := by
  induction vs generalizing ds i with
  | nil => cases h; simp; exact .none
  | cons v vs ih =>
    cases h with
    | cons a r =>
      cases i with
      | zero => simpa using a
      | succ i => simpa using ih r i

theorem RepAll.pick {K : HM} {vs : List Value} {ds : List PyData} (h : RepAll K vs ds) : ∀ (p : List Nat), RepAll K (p.map fun i => vs.getD i .none) (p.map fun i => ds.getD i .none)
  | [] => .nil
  | i :: p => .cons (h.getD i) (RepAll.pick h p)

theorem ask2 {prog : Program} {w : World} {A : Around} {s : Shared} {K : HM} {vs : List Value} {ds : List PyData} {i j : Nat} {Cb : Bool → Shared → Prop} (hk : ∀ a o, K a = some o → s.heap.get? a = some o) (h : RepAll K vs ds) {a b c d : Int}
    (hi : key2 (ds.getD i .none) = some (a, b)) (hj : key2 (ds.getD j .none) = some (c, d)) (hne : (a, b) ≠ (c, d)) (hq : Cb (decide (a < c) || (decide (a = c) && decide (b < d))) s) : kas_ask prog w A (tuples' true) vs i j Cb s := by
  obtain ⟨r1, e1⟩ := key2_tuple hi
  obtain ⟨r2, e2⟩ := key2_tuple hj
  have q1 := h.getD i
  have q2 := h.getD j
  rw [e1] at q1
  rw [e2] at q2
  unfold kas_ask
  obtain ⟨x, ox, xs, m, hx, hKx, hcx, hdx, rx⟩ := q1.tupleInv
  obtain ⟨y, oy, ys, m', hy, hKy, hcy, hdy, ry⟩ := q2.tupleInv
  rw [hx, hy]
  obtain ⟨t, u, xs', ex⟩ := rx.pairInv
  obtain ⟨t', u', ys', ey⟩ := ry.pairInv
  refine kat_lt (hk _ _ hKx) hdx (hk _ _ hKy) hdy ?_
  rw [ex, ey]
  simp only [List.zip_cons_cons]
  refine kat_cons (wpAny_eqBool_int ?_)
  by_cases hac : a = c
  · subst hac
    rw [beq_self_eq_true]
    refine kat_yes (kat_cons (wpAny_eqBool_int ?_))
    have hbd : b ≠ d := fun e => hne (by rw [e])
    rw [beq_eq_false_iff_ne.mpr hbd]
    refine kat_no ?_
    show wpAny (model prog w) A (oneLt' false (.int b u) (.int d u')) Cb _ s
    refine kat_one _ _ (PyProof.Rows.lt_int ?_)
    show Cb (decide (b < d)) s
    simpa using hq
  · rw [beq_eq_false_iff_ne.mpr hac]
    refine kat_no ?_
    show wpAny (model prog w) A (oneLt' true (.int a t) (.int c t')) Cb _ s
    refine oneLt_int ?_
    simpa [hac] using hq

theorem pick_perm {ds : List PyData} {p : Array Nat} (P : POk ds.length p) : (p.toList.map fun i => ds.getD i .none).Perm ds := by
  have h : p.toList.Perm (List.range ds.length) := by simpa using Array.perm_iff_toList_perm.mp P.perm
  refine (h.map _).trans (.of_eq ?_)
  apply List.ext_getElem
  · simp
  · intro i h1 h2
    simp [List.getElem?_eq_getElem h2]

theorem CallN.sorted {ds out : List PyData} (hk : ∀ d ∈ ds, (key2 d).isSome = true) (hnd : (ds.map key2).Nodup) (h64 : ds.length < 64) (hp : out.Perm ds) (hs : out.Pairwise kLt) : CallN C n (.builtin "sorted") [.list ds] out := by
  intro K Y vs A s E q ok I
  cases q with
  | cons r q =>
  cases q
  obtain ⟨l, ws, rfl, hl, q⟩ := r.isList I
  have hlen : ws.toList.length = ds.length := q.length
  have hl' : s.heap.IsList l ws.toList.toArray := by simpa using hl
  refine sorted_by hl' (by rw [hlen]; exact h64) fun D s₁ hD hkeep hs₁ hoD => ?_
  obtain ⟨h₁, rfl⟩ := hs₁
  have old : ∀ b o, s.heap.get? b = some o → b ≠ D := fun b o e q => by rw [q, hD] at e; cases e
  by_cases h2 : ds.length < 2
  · refine list_sort_few hoD (by rw [hlen]; exact h2) fun h' c hk' ho' => ⟨rfl, ?_⟩
    have he : out = ds := by
      match ds, h2 with
      | [], _ => simpa using hp
      | [d], _ => simpa using hp
    rw [he]
    exact NewL.at I s.toks (fun b o e => hk' b o (old b o e) (hkeep b o e)) hD ho' rfl ⟨rfl, rfl⟩ rfl (by simpa using q)
  ·
    let ks := ds.map fun d => (key2 d).getD (0, 0)
    have hks : ks.length = ds.length := by simp [ks]
    have hkey : ∀ i, i < ds.length → key2 (ds.getD i .none) = some (ks.getD i (0, 0)) := fun i hi => by
      have hm : ds.getD i .none ∈ ds := by
        rw [List.getD_eq_getElem?_getD, List.getElem?_eq_getElem hi]; simp
      obtain ⟨x, hx⟩ := Option.isSome_iff_exists.mp (hk _ hm)
      have : ks.getD i (0, 0) = (key2 (ds.getD i .none)).getD (0, 0) := by
        simp [ks, List.getD_eq_getElem?_getD, List.getElem?_eq_getElem hi]
      rw [this, hx]; rfl
    have hkn : ks.Nodup := by
      have e : ds.map key2 = ks.map some := by
        simp only [ks, List.map_map]
        refine List.map_congr_left fun d hd => ?_
        obtain ⟨x, hx⟩ := Option.isSome_iff_exists.mp (hk _ hd)
        simp [hx]
      rw [e] at hnd
      exact List.Pairwise.of_map some (fun a b h e => h (by rw [e])) hnd
    have L : LtOk (ltK ks) ds.length := by have := ltK_ok hkn; rwa [hks] at this
    refine list_sort_by (G := fun p => POk ds.length p ∧ Up (ltK ks) p ds.length) hoD (by rw [hlen]; omega) (by rw [hlen]; exact h64) (fun h' hk' => ?_) fun p h' c hg hk' ho' => ⟨rfl, ?_⟩
    · have hkeep' : ∀ a o, K a = some o → h'.get? a = some o := fun a o e => hk' a o (old a o (I.k _ _ e)) (hkeep a o (I.k _ _ e))
      obtain ⟨fs, t1, t2, t3⟩ := q.tups (h := h') hkeep' hk
      refine kat_kind (T := .type "int") t1 (by omega) (fun v hv => ?_) rfl ?_
      · obtain ⟨i, t, rfl⟩ := t3 v hv
        exact Looks.of_pure rfl
      · rw [show (Value.type "int" != Value.type "tuple") = true by decide, hlen]
        refine KWp.run (lt := ltK ks) (n := ds.length) (fun i j Cb hi hj hne hc => ?_) (fun p hp => ⟨rfl, hp⟩) (wp_sort L (by omega))
        refine ask2 (a := (ks.getD i (0, 0)).1) (b := (ks.getD i (0, 0)).2) (c := (ks.getD j (0, 0)).1) (d := (ks.getD j (0, 0)).2) hkeep' q (hkey i hi) (hkey j hj) ?_ hc
        intro e
        have e' : ks.getD i (0, 0) = ks.getD j (0, 0) := e
        rw [List.getD_eq_getElem?_getD, List.getD_eq_getElem?_getD, List.getElem?_eq_getElem (by rw [hks]; exact hi), List.getElem?_eq_getElem (by rw [hks]; exact hj)] at e'
        exact hne ((List.getElem_inj hkn).mp e')
    · obtain ⟨P, U⟩ := hg
      have he : out = p.toList.map fun i => ds.getD i .none := by
        refine List.Perm.eq_of_pairwise (le := kLt) (fun a b _ _ h1 h2 => kLt.asymm h1 h2) hs ?_ (hp.trans (pick_perm P).symm)
        rw [List.pairwise_iff_getElem]
        intro i j hi hj hij
        simp only [List.length_map, Array.length_toList, P.size] at hi hj
        have hU := U i j hij hj
        have gi : p.toList[i]'(by simp [P.size, hi]) = at_ p i := by simp [at_, Array.getD, P.size, hi]
        have gj : p.toList[j]'(by simp [P.size, hj]) = at_ p j := by simp [at_, Array.getD, P.size, hj]
        simp only [List.getElem_map, gi, gj]
        refine ⟨(ks.getD (at_ p i) (0, 0)).1, (ks.getD (at_ p i) (0, 0)).2, (ks.getD (at_ p j) (0, 0)).1, (ks.getD (at_ p j) (0, 0)).2, hkey _ (P.lt i hi), hkey _ (P.lt j hj), ?_⟩
        simpa only [ltK, Bool.or_eq_true, Bool.and_eq_true, decide_eq_true_eq] using hU
      rw [he]
      exact NewL.at I s.toks (fun b o e => hk' b o (old b o e) (hkeep b o e)) hD ho' rfl ⟨rfl, rfl⟩ rfl (by simpa using q.pick p.toList)
end
end Sq
end

section
set_option autoImplicit false
set_option linter.unusedVariables false
open PySem PyProof.Rows PySem.W
namespace Sq

inductive WhB (C : Cx) (n : Nat) (sc : Scope) (test : Expr) (body : List Stmt) : PEnv → PEnv → Prop
  | done {ρ} : Tt C n sc ρ test false → WhB C n sc test body ρ ρ
  | step {ρ ρ₁ ρ'} : Tt C n sc ρ test true → Ex C n sc ρ body (.next ρ₁) → WhB C n sc test body ρ₁ ρ' → WhB C n sc test body ρ ρ'

section
variable {C : Cx} {n : Nat} {sc : Scope} {ρ : PEnv}

theorem WhB.run {test : Expr} {body : List Stmt} {ρ' : PEnv} (h : WhB C n sc test body ρ ρ') : ∀ {A : Around} {K M X : HM} {env : Env} {s : Shared} {R : Result → Shared → Prop}, AOk n A → EnvOk K M sc env ρ → Inv C K (M.join X) s → Disj M X →
    (∀ s' K' M', HM.le K K' → Inv C K' (M'.join X) s' → Disj M' X → EnvOk K' M' sc env ρ' → R (.ok .next) s') → codeAny C.md A (.whileLoop test body [] env) R s := by
  induction h with
  | done ht =>
    intro A K M X env s R a O I D k
    refine codeAny_of_tree ?_
    show wpAny C.md A ((whileTurn test body [] env).onRaise (fun x => do noteFrame x env; theTreesLotGoes x)) _ _ s
    refine wpAny_noted ?_
    simp only [whileTurn]
    refine wpAny_bind (wpAny_mono (ht A K (M.join X) env s _ a (O.rdX X) I) (fun b s₂ p => ?_) fun _ _ x => x)
    obtain ⟨rfl, K', l, I'⟩ := p
    simp only [Bool.false_eq_true, if_false]
    exact wpAny_bind (wpAny_execs_nil (wpAny_pure (k s₂ K' M l I' D (O.monoK l))))
  | step ht hb _ ih =>
    intro A K M X env s R a O I D k
    refine codeAny_of_tree ?_
    show wpAny C.md A ((whileTurn test body [] env).onRaise (fun x => do noteFrame x env; theTreesLotGoes x)) _ _ s
    refine wpAny_noted ?_
    simp only [whileTurn]
    refine wpAny_bind (wpAny_mono (ht A K (M.join X) env s _ a (O.rdX X) I) (fun b s₂ p => ?_) fun _ _ x => x)
    obtain ⟨rfl, K', l, I'⟩ := p
    simp only [if_true]
    refine wpAny_bind (wpAny_mono (hb A K' M X env s₂ _ a (O.monoK l) I' D) (fun f s₃ p => ?_) fun _ _ x => x)
    obtain ⟨K₃, M₃, l₃, I₃, D₃, rfl, O₃⟩ := p
    exact wpAny_pure ⟨rfl, ih a O₃ I₃ D₃ fun s' K' M' l' I' D' O' => k s' K' M' ((l.trans l₃).trans l') I' D' O'⟩

theorem Es.while {test : Expr} {body : List Stmt} {pos : Pos} {ρ' : PEnv} (h : WhB C n sc test body ρ ρ') : Es C n sc ρ (.While test body [] pos) (.next ρ') := by
  intro A K M X env s E a O I D
  exact wpAny_While (h.run a O I D fun s' K' M' l' I' D' O' => ⟨K', M', l', I', D', rfl, O'⟩)

theorem count_list {K Y : HM} {s : Shared} {A : Around} {E : Value → Shared → Prop} {l : Addr} {vs : Array Value} {ns : List Int} {k : Int} {t : Tok} {Q : Value → Shared → Prop} (hl : s.heap.IsList l vs) (hi : IntsAre vs.toList ns)
    (h : Q (.int (ns.count k : Nat) s.toks) { s with toks := s.toks + 1 }) : wpAny C.md A (call (.builtin "list.count") [.ref l, .int k t]) Q E s :=
  count_list_ints (vs := vs.toList) (by simpa using hl) hi h

theorem Ev.count {x : Str} {px apos pos : Pos} {ek : Expr} {ns : List Int} {k : Int} (hx : ρ.lookup x = some (.val (.list (nums ns)))) (hk : Ev C n sc ρ ek (.int k))
    (hst : ∀ y p, ek ≠ .Starred y p) (hl : apos.endLine == pos.line := by rfl) (hdb : (x == ("__debug__" : Str)) = false := by decide) :
    Ev C n sc ρ (.Call (.Attribute (.Name x px) "count" apos) [ek] [] pos) (.int (ns.count k : Nat)) := by
  intro A K Y env s E a R I
  obtain ⟨v, V, r₀⟩ := R.vars x _ hx
  cases r₀ with
  | @list la o vs m _ hK hc hdd hd q =>
  have hil : s.heap.IsList la vs := ⟨o, I.k _ _ hK, hc, m, hd⟩
  refine MethodCall_ (pl := (do return (← importBound (.Name x px) env).getD true)) (wpAny_Name (V.load I R.fk (getMethod_list_of PySem.F.slot_list_count (by rfl) hil ⟨o, I.k _ _ hK, hdd⟩ ?_)) hdb) ?_
  · refine callWith_method1 ?_ (starEach_plain hst) rfl
    rw [starEach_plain hst]
    refine Calls.spliced_cons (hk.use a R I fun u s₁ K₁ l₁ I₁ r₁ R₁ => Calls.spliced_nil ?_)
    cases r₁ with
    | int _ t =>
    exact count_list (K := K₁) (Y := Y) ⟨o, I₁.k _ _ (l₁ _ _ hK), hc, m, hd⟩ q.intsAre ⟨K₁, l₁, I₁.tok _, .int _ _⟩
  · have hl' : (apos.endLine == pos.line) = true := hl
    show (do
      let ov ← eval (.Name x px) env
      standAt apos.atName
      methodCall (.Name x px) "count" apos pos env ov 1 (backTo pos (starEach [ek] env)) []) = _
    unfold methodCall
    have hf : methodCallForm 1 (backTo pos (starEach [ek] env)) [] = true := by
      rw [starEach_plain hst]; rfl
    simp only [hf, calleeOf, if_true, methodCallPos, Bool.not_true, Bool.false_or, hl']
    rfl

theorem Bin.ltT {a b c d : Int} : Bin C n (compareOp .Lt) (.tuple [.int a, .int b]) (.tuple [.int c, .int d]) (.bool (decide (a < c) || (decide (a = c) && decide (b < d)))) := by
  intro K Y v u r₁ r₂ A s E ok I
  obtain ⟨x, ox, xs, m, rfl, hKx, hcx, hdx, rx⟩ := r₁.tupleInv
  obtain ⟨y, oy, ys, m', rfl, hKy, hcy, hdy, ry⟩ := r₂.tupleInv
  have h1 : xs.toList.length = 2 := rx.length
  have h2 : ys.toList.length = 2 := ry.length
  have hx := I.k _ _ hKx
  have hy := I.k _ _ hKy
  obtain ⟨t, u, xs', ex⟩ := rx.pairInv
  obtain ⟨t', u', ys', ey⟩ := ry.pairInv
  have ex' : xs' = [] := by rw [ex] at h1; simpa using h1
  have ey' : ys' = [] := by rw [ey] at h2; simpa using h2
  subst ex' ey'
  show wpAny C.md A (richCompare .Lt _ _) _ E s
  have hu : A.units < cLine := by have := ok.units; omega
  refine wpAny_richCompare_same_room (T := "tuple") ⟨_, hx, hcx⟩ ⟨_, hy, hcy⟩ PySem.F.slot_tuple_lt (wpAny_call_entry PySem.F.slot_tuple_lt ⟨_, hx, hcx⟩ PySem.F.entry_tuple_lt ?_ (PySem.F.args_tuple_lt_2 _ _)) hu
  have hT : s.TypeIs (.ref y) "tuple" := ⟨_, hy, hcy⟩
  have hsub : isSubtype (.type "tuple") (.type "tuple") = pure true := by rw [isSubtype_type]; kernel_rfl
  unfold Builtin.«tuple.__lt__»
  refine wpAny_bind (wpAny_pure ?_)
  refine wpAny_bind (wpAny_isInstance hT hsub ?_)
  simp only [Bool.not_true, Bool.false_eq_true, if_false]
  refine wpAny_bind (wpAny_tupleItemsOf hx hdx (wpAny_bind (wpAny_tupleItemsOf hy hdy ?_)))
  rw [ex, ey]
  simp only [List.zip_cons_cons, List.zip_nil_right, List.forIn_cons, List.forIn_nil]
  refine wpAny_bind (wpAny_bind (wpAny_bind (wpAny_eqBool_int ?_)))
  by_cases hac : a = c
  · subst hac
    rw [beq_self_eq_true]
    simp only [Bool.not_true, Bool.false_eq_true, if_false]
    refine wpAny_pure (wpAny_bind (wpAny_bind (wpAny_eqBool_int ?_)))
    by_cases hbd : b = d
    · subst hbd
      rw [beq_self_eq_true]
      simp only [Bool.not_true, Bool.false_eq_true, if_false]
      refine wpAny_pure (wpAny_pure (wpAny_pure ⟨_, rfl, ?_⟩))
      have hs1 : xs.size = 2 := by simpa using h1
      have hs2 : ys.size = 2 := by simpa using h2
      rw [hs1, hs2]
      simp only [Int.lt_irrefl, decide_false, Bool.and_false, Bool.or_false]
      exact ⟨(by intro e; cases e), .mk I (.bool _)⟩
    · rw [beq_eq_false_iff_ne.mpr hbd]
      simp only [Bool.not_false, if_true]
      refine wpAny_bind (wpAny_rule (wpAny_bind ?_))
      show wpAny (model C.prog C.w) A.in1 (compareOp .Lt (Value.int b u) (Value.int d u')) _ E s
      refine PyProof.Rows.lt_int (wpAny_bind (wpAny_pure (wpAny_pure (wpAny_pure (wpAny_pure ⟨_, rfl, (by intro e; cases e), .mk I ?_⟩)))))
      simp only [Int.lt_irrefl, decide_false, Bool.false_or, decide_true, Bool.true_and]
      exact .bool _
  · rw [beq_eq_false_iff_ne.mpr hac]
    simp only [Bool.not_false, if_true]
    refine wpAny_bind (wpAny_rule (wpAny_bind ?_))
    show wpAny (model C.prog C.w) A.in1 (compareOp .Lt (Value.int a t) (Value.int c t')) _ E s
    refine PyProof.Rows.lt_int (wpAny_bind (wpAny_pure (wpAny_pure (wpAny_pure (wpAny_pure ⟨_, rfl, (by intro e; cases e), .mk I ?_⟩)))))
    simp only [hac, decide_false, Bool.false_and, Bool.or_false]
    exact .bool _
end
end Sq
end

section
set_option autoImplicit false
set_option linter.unusedVariables false
open PySem PyProof.Rows PySem.W
namespace Sq

structure Glb (C : Cx) (mg mb : Str → Option Value) : Prop where
  g : NsIn C.K0 mainGlobals mg
  b : NsIn C.K0 builtinsNs mb
  lim : ∃ mc, NsIn C.K0 cStatics mc ∧ mc "sys.recursionlimit" = none
  bm : ∃ a o, mg "__builtins__" = some (.ref a) ∧ a ≠ builtinsNs ∧ C.K0 a = some o ∧ o.cls = .type "module" ∧ o.dict = some builtinsNs ∧ o.data = .plain

def CodeK (C : Cx) (c : Addr) : Prop := ∃ o vs file tf flags tg inF text tt, C.K0 c = some o ∧ o.cls = .type "code" ∧ o.data = .fields vs ∧ vs[11]? = some (.ref C.P) ∧ vs.getD 11 .none = .ref C.P ∧ vs.getD 18 .none = .str file tf ∧
  vs.getD 7 .none = .int flags tg ∧ vs.getD 9 .none = .bool inF ∧ vs.getD 10 .none = .int text tt

structure TabK (C : Cx) : Prop where
  ok : ∀ ps, C.tab ps → TriplesOk ps.toList
  grow : ∀ ps x y c, C.tab ps → C.tab (ps ++ #[rawInt x, rawInt y, .ref c])

section
variable {C : Cx} {n : Nat} {sc : Scope} {ρ : PEnv}

theorem Inv.far {K Y : HM} {s s' : Shared} (I : Inv C K Y s) (hk : ∀ b o, b ≠ C.P → s.heap.get? b = some o → s'.heap.get? b = some o) (ht : ∃ ps, s'.heap.get? C.P = some { cls := .none, data := .fields ps } ∧ C.tab ps) (hos : s'.os = s.os) (hg : AllBare s'.gens) : Inv C K Y s' where
  k := fun a o e => hk a o (fun q => by rw [q, I.pk] at e; cases e) (I.k a o e)
  y := fun a o e => by
    obtain ⟨o', h, se⟩ := I.y a o e
    exact ⟨o', hk a o' (fun q => by rw [q, I.py] at e; cases e) h, se⟩
  dj := I.dj
  top := I.top
  pk := I.pk
  py := I.py
  tab := ht
  os := hos.trans I.os
  gens := hg

theorem CodeK.isCode {c : Addr} (h : CodeK C c) {K Y : HM} {s : Shared} (I : Inv C K Y s) {ps : Array Value} (hp : s.heap.get? C.P = some { cls := .none, data := .fields ps }) (htr : TriplesOk ps.toList) : s.heap.IsCode c C.P ps ∧ s.heap.TableAt c C.P ps := by
  obtain ⟨o, vs, file, tf, flags, tg, inF, text, tt, h0, hc, hd, h11', h11, h18, h7, h9, h10⟩ := h
  have hk := I.top _ _ h0
  have ho := I.k _ _ hk
  exact ⟨⟨o, vs, file, tf, flags, tg, inF, text, tt, _, ho, hd, h11, h18, h7, h9, h10, hp, rfl, htr, fun q => by rw [q, I.pk] at hk; cases hk⟩, ⟨o, vs, ho, hc, hd, h11'⟩, hp⟩

theorem gen_code {A : Around} {K Y : HM} {s : Shared} {E : Value → Shared → Prop} {env : Env} {c : Addr} {pos : Pos} {q : Str} {scope : Scope} {Q : Value → Shared → Prop} (T : TabK C) (hC : CodeK C c) (hcode : env.code = .ref c) (I : Inv C K Y s)
    (k : ∀ v h' tk, Heap.ExtBut C.P s.heap h' → s.heap.objs.size ≤ h'.objs.size → (∃ ps, h'.get? C.P = some { cls := .none, data := .fields ps } ∧ C.tab ps) → Q v { s with heap := h', toks := tk }) : wpAny C.md A (genexprCode env pos q scope) Q E s := by
  obtain ⟨ps, hp, ht⟩ := I.tab
  obtain ⟨i1, i2⟩ := hC.isCode I hp (T.ok ps ht)
  cases hf : codeAmong pos ps.toList with
  | some v => exact wpAny_genexprCode_hit hcode i1 hf (k v s.heap s.toks (fun b o _ e => e) (Nat.le_refl _) ⟨ps, hp, ht⟩)
  | none =>
    refine wpAny_genexprCodeX hcode i1 i2 hf fun c' h' tk hx hge hlt _ _ htab _ => ?_
    exact k _ h' tk hx (Nat.le_trans hge (Nat.le_of_lt hlt)) ⟨_, htab.2, T.grow _ _ _ _ ht⟩

theorem NsIn.at {K K0 : HM} {a : Addr} {m : Str → Option Value} (h : NsIn K0 a m) (l : HM.le K0 K) {hp : Heap} (hk : ∀ b o, K b = some o → hp.get? b = some o) : hp.Ns a m :=
  let ⟨o, es, ep, k, r⟩ := h; ⟨o, es, ep, hk _ _ (l _ _ k), r⟩

theorem allInt {x got al tn T : Str} {px pg pa pe pos pG pt pc pT pC : Pos} {scope : Scope} {ns : List Int} {mg mb : Str → Option Value} {c : Addr} (G : Glb C mg mb) (TK : TabK C) (hC : CodeK C c)
    (hgot : ρ.lookup got = some (.val (.list (nums ns)))) (hal : GlobV C al (.builtin "all")) (hka : sc.names.lookup al = some .globalImplicit)
    (htn : mg tn = none ∧ mb tn = some (.type "type")) (hT : mg T = none ∧ mb T = some (.type "int"))
    (hsc : scope.isCoroutine = false) (hfree : ∀ p ∈ scope.names, p.2 ≠ .free) (hcell : ∀ p ∈ scope.names, p.2 ≠ .cell) (h0 : scope.names.lookup (".0" : Str) = some NameKind.local) (hx : scope.names.lookup x = some .local) (hkind : scope.kind = .function)
    (hktn : scope.names.lookup tn = some .globalImplicit) (hkT : scope.names.lookup T = some .globalImplicit)
    (hd1 : (al == ("__debug__" : Str)) = false := by decide) (hd2 : (got == ("__debug__" : Str)) = false := by decide) (hd3 : (tn == ("__debug__" : Str)) = false := by decide) (hd4 : (T == ("__debug__" : Str)) = false := by decide) (hd5 : (x == ("__debug__" : Str)) = false := by decide)
    {A : Around} {K Y : HM} {env : Env} {s : Shared} {E : Value → Shared → Prop} (ok : AOk n A) (R : EnvRd K Y sc env ρ) (hcode : env.code = .ref c) (I : Inv C K Y s) :
    wpAny C.md A (eval (.Call (.Name al pa) [.GeneratorExp (.Compare (.Call (.Name tn pt) [.Name x pc] [] pC) [.Is] [.Name T pT] pe) [⟨.Name x px, .Name got pg, [], 0⟩] scope pG] [] pos) env) (fun v s' => v = .bool true ∧ Inv C K Y s') E s := by
  refine call_name hal hka R I hd1 (Calls.callWith_builtin rfl (Calls.evalArgs_plain ?_))
  refine Calls.spliced_cons ?_
  obtain ⟨cl, hcl, _, _⟩ := closureFor_ok (scope := scope) (env := env) (fun p hp hf => absurd hf (hfree p hp))
  refine wpAny_GeneratorExp_walksQD ok.h hsc hcl hcell h0 hx hkind ok.room ?_ (fun _ => rfl)
  obtain ⟨lv, V, r⟩ := R.vars got _ hgot
  refine wpAny_Name (V.load I R.fk ?_) hd2
  obtain ⟨l, o, vs, m, rfl, hK, hc, hd, q⟩ := r.listInv
  have hil : s.heap.IsList l vs := ⟨o, I.k _ _ hK, hc, m, hd⟩
  have hi := q.intsAre
  refine wpAny_pyIter_list hil ?_
  have hf := Inv.none_of_size (Nat.le_refl s.heap.objs.size)
  have hl : l < s.heap.objs.size := Heap.lt_size (I.k _ _ hK)
  have I₂ := I.ext (h' := s.heap.push { cls := .type "list_iterator", data := .fields #[.ref l, .int 0 0] }) s.toks fun _ _ e => Heap.get?_push_of_some _ e
  have nolim : ∀ {hp : Heap}, (∀ b o, K b = some o → hp.get? b = some o) → hp.NoLimit := fun {hp} hk => by
    obtain ⟨mc, h1, h2⟩ := G.lim
    exact ⟨mc, h1.at I.top hk, h2⟩
  refine ⟨nolim I₂.k, gen_code TK hC hcode I₂ fun cv h₃ tk₃ hx₃ hsz₃ ht₃ => ?_⟩
  have I₃ : Inv C K Y { s with heap := h₃, toks := tk₃ } := I₂.far hx₃ ht₃ rfl I₂.gens
  have hsz₂ : (s.heap.push { cls := .type "list_iterator", data := .fields #[.ref l, .int 0 0] }).objs.size = s.heap.objs.size + 1 := Heap.size_push ..
  have hsz : s.heap.objs.size < h₃.objs.size := by
    have : (s.heap.push { cls := .type "list_iterator", data := .fields #[.ref l, .int 0 0] }).objs.size ≤ h₃.objs.size := hsz₃
    rw [hsz₂] at this; exact this
  obtain ⟨bm, ob, b1, b2, b3, b4, b5, b6⟩ := G.bm
  rw [R.gl]
  refine wpAny_builtinsFor (G.g.at I₃.top I₃.k) b1 b2 (I₃.k _ _ (I₃.top _ _ b3)) b4 b5 b6 ?_
  have hIP : s.heap.objs.size ≠ C.P := Ne.symm (I.freshP hf)
  have hit₃ : h₃.IsListIter s.heap.objs.size l 0 := ⟨_, hx₃ _ _ hIP (Heap.get?_push_size _ rfl), rfl, rfl⟩
  have hil₃ : h₃.IsList l vs := ⟨o, I₃.k _ _ hK, hc, m, hd⟩
  refine ⟨s.heap.objs.size, [s.heap.objs.size, l], [s.heap.objs.size], vs.size, (fun i v => vs[i]? = some v), (fun i h => h.IsListIter s.heap.objs.size l i ∧ h.IsList l vs), (fun _ => true), (fun i y => y = .bool true), rfl,
    (fun A' hA => Walks.list hA _ l (Nat.ne_of_lt hl) vs), ⟨hit₃, hil₃⟩, ?_, nolim I₃.k, ?_, fun href hhref => ?_, fun a h₅ tk gs hgb hag hsz₅ hk₅ W hat => ?_⟩
  · intro b hb
    show b < h₃.objs.size
    rcases List.mem_cons.mp hb with rfl | hb
    · exact hsz
    · rcases List.mem_cons.mp hb with rfl | hb
      · exact Nat.lt_trans hl hsz
      · cases hb
  · intro hb
    rcases List.mem_cons.mp hb with e | hb
    · obtain ⟨mc, ⟨oc, _, _, h1, _⟩, _⟩ := G.lim
      have := I.k _ _ (I.top _ _ h1)
      rw [e, hf] at this; cases this
    · cases hb
  · have kept : ∀ (s₂ : Shared), (∀ b ∈ List.range h₃.objs.size, b ∉ [s.heap.objs.size] → ∀ o, href.get? b = some o → s₂.heap.get? b = some o) → ∀ b o, K b = some o → s₂.heap.get? b = some o := by
      intro s₂ hk b o e
      have e₃ := I₃.k _ _ e
      refine hk b (List.mem_range.mpr (Heap.lt_size e₃)) (fun hm => ?_) o (hhref b o e₃)
      rcases List.mem_cons.mp hm with rfl | hm
      · have := I.k _ _ e; rw [hf] at this; cases this
      · cases hm
    refine ⟨fun A' E' i v s₂ m₂ hA hD hU hP hn hm hk => wpAny_pure ⟨rfl, _, _, rfl, fun b o e => e⟩, fun A' E' i v s₂ m₂ hA hD hU hP _ hn hm hk => ?_⟩
    have hv : ∃ k t, v = .int k t := by
      obtain ⟨k, t, e, _⟩ := hi.at i v (by simpa using hP)
      exact ⟨k, t, e⟩
    obtain ⟨k, t, rfl⟩ := hv
    have hgn := G.g.at I.top (kept s₂ hk)
    have hbn := G.b.at I.top (kept s₂ hk)
    have hks : ∀ y, (genEnv scope cl h₃.objs.size cv builtinsNs env).kindOf y = scope.names.lookup y := fun y => rfl
    have hfk : (genEnv scope cl h₃.objs.size cv builtinsNs env).scope.kind = .function := hkind
    refine wpAny_Compare1 ?_
    show wpAny C.md A' (do callWith pC (← eval (.Name tn pt) _) [] (backTo pC (starEach [.Name x pc] _)) (backToKw pC (keywordEach [] _))) _ E' s₂
    refine wpAny_bind (Calls.Name_function_global hfk ((hks tn).trans hktn) (Calls.loadGlobal_builtin (mg := mg) (mb := mb) (by show s₂.heap.Ns env.globals mg; rw [R.gl]; exact hgn) htn.1 hbn htn.2 ?_) hd3)
    refine PyProof.Rows.callWith_type rfl (Calls.evalArgs_plain (Calls.spliced_cons (wpAny_Name (wpAny_loadName_local hfk ((hks x).trans hx) hn hm (Calls.spliced_nil ?_)) hd5)))
    refine call_type_of (typeIs_int s₂ k t) rfl ?_
    refine Calls.Name_function_global hfk ((hks T).trans hkT) (Calls.loadGlobal_builtin (mg := mg) (mb := mb) (by show s₂.heap.Ns env.globals mg; rw [R.gl]; exact hgn) hT.1 hbn hT.2 ?_) hd4
    exact wpAny_is_self rfl ⟨rfl, _, _, rfl, fun b o e => e⟩
  · refine Calls.spliced_nil ?_
    have W' := W.in4_1
    refine call_all_walkS (W'.self 0 _ _ _ hat ⟨a, _, _, _, _, _, _, (fun _ => true), rfl, W', hat, fun i v s₀ Q₀ E₀ hv hq => ?_, fun s' hm => ?_⟩)
    · obtain ⟨_, _, rfl⟩ := hv
      exact wpAny_truthy_bool hq
    · refine ⟨by simp, ?_⟩
      have hP₃ : C.P < s.heap.objs.size := by obtain ⟨ps, e, _⟩ := I.tab; exact Heap.lt_size e
      refine I.far (fun b o hb e => hm.heap b o (fun hmem => ?_) (hk₅ b o (hx₃ b o hb (Heap.get?_push_of_some _ e)))) ?_ hm.os ((show AllBare (s.gens.push gs) from I.gens.push hgb).movedS hm)
      · have hb' : b < s.heap.objs.size := Heap.lt_size e
        rcases List.mem_cons.mp hmem with e' | hmem
        · exact absurd e' (Nat.ne_of_lt (Nat.lt_trans hb' hsz))
        · rcases List.mem_cons.mp hmem with e' | hmem
          · exact absurd e' (Nat.ne_of_lt hb')
          · cases hmem
      · obtain ⟨ps, e, ht⟩ := ht₃
        refine ⟨ps, hm.heap _ _ (fun hmem => ?_) (hk₅ _ _ e), ht⟩
        rcases List.mem_cons.mp hmem with e' | hmem
        · have : C.P < h₃.objs.size := Nat.lt_trans hP₃ hsz
          exact absurd e' (Nat.ne_of_lt this)
        · rcases List.mem_cons.mp hmem with e' | hmem
          · exact absurd e' (Nat.ne_of_lt hP₃)
          · cases hmem
end
end Sq
end

section
set_option autoImplicit false
set_option linter.unusedVariables false
open PySem PyProof.Rows PySem.W
namespace Sq

def Rz (C : Cx) (n : Nat) (sc : Scope) (ρ : PEnv) (V : String) (st : List Stmt) : Prop :=
  ∀ (A : Around) (K M X : HM) (env : Env) (s : Shared) (Q : Flow → Shared → Prop) (E : Value → Shared → Prop), AOk n A → EnvOk K M sc env ρ → Inv C K (M.join X) s → Disj M X → PassesOwn C.md A env E →
    (∀ K' M' s₀ h' e args, HM.le K K' → Inv C K' (M'.join X) s₀ → Disj M' X → EnvOk K' M' sc env [] → Heap.MadeExcOf s₀.heap h' e (.type V) args → E (.ref e) { s₀ with heap := h' }) →
    wpAny C.md A (execs st env) Q E s
def RzS (C : Cx) (n : Nat) (sc : Scope) (ρ : PEnv) (V : String) (st : Stmt) : Prop :=
  ∀ (A : Around) (K M X : HM) (env : Env) (s : Shared) (Q : Flow → Shared → Prop) (E : Value → Shared → Prop), AOk n A → EnvOk K M sc env ρ → Inv C K (M.join X) s → Disj M X → PassesOwn C.md A env E →
    (∀ K' M' s₀ h' e args, HM.le K K' → Inv C K' (M'.join X) s₀ → Disj M' X → EnvOk K' M' sc env [] → Heap.MadeExcOf s₀.heap h' e (.type V) args → E (.ref e) { s₀ with heap := h' }) →
    wpAny C.md A (exec st env) Q E s

inductive ForR (C : Cx) (n : Nat) (sc : Scope) (V : String) (t : Expr) (body : List Stmt) : PEnv → List PyData → Prop
  | here {ρ ρ₁ d ds} : As C n sc ρ t d ρ₁ → Rz C n sc ρ₁ V body → ForR C n sc V t body ρ (d :: ds)
  | later {ρ ρ₁ ρ₂ d ds} : As C n sc ρ t d ρ₁ → Ex C n sc ρ₁ body (.next ρ₂) → ForR C n sc V t body ρ₂ ds → ForR C n sc V t body ρ (d :: ds)

section
variable {C : Cx} {n : Nat} {sc : Scope} {ρ : PEnv} {V : String}

theorem Rz.head {st : Stmt} {rest : List Stmt} (h : RzS C n sc ρ V st) : Rz C n sc ρ V (st :: rest) := by
  intro A K M X env s Q E a O I D hE k
  exact wpAny_execs_cons (h A K M X env s _ E a O I D hE k)
theorem Rz.cons {st : Stmt} {rest : List Stmt} {ρ₁ : PEnv} (h : Es C n sc ρ st (.next ρ₁)) (hr : Rz C n sc ρ₁ V rest) : Rz C n sc ρ V (st :: rest) := by
  intro A K M X env s Q E a O I D hE k
  refine wpAny_execs_cons (wpAny_mono (h A K M X env s E a O I D) (fun f s' p => ?_) fun _ _ x => x)
  obtain ⟨K', M', l, I', D', rfl, O'⟩ := p
  exact hr A K' M' X env s' Q E a O' I' D' hE fun K'' M'' s₀ h' e args l' => k K'' M'' s₀ h' e args (l.trans l')
theorem Rz.weak {st : List Stmt} {ρ' : PEnv} (h : Rz C n sc ρ' V st) (hw : ∀ x pv, ρ'.lookup x = some pv → ρ.lookup x = some pv) : Rz C n sc ρ V st :=
  fun A K M X env s Q E a O I D hE k => h A K M X env s Q E a (O.weak hw) I D hE k

theorem RzS.iff {test : Expr} {body orelse : List Stmt} {pos : Pos} {b : Bool} (ht : Tt C n sc ρ test b) (hb : Rz C n sc ρ V (if b then body else orelse)) : RzS C n sc ρ V (.If test body orelse pos) := by
  intro A K M X env s Q E a O I D hE k
  refine wpAny_If (wpAny_mono (ht A K (M.join X) env s E a (O.rdX X) I) (fun r s₁ p => ?_) fun _ _ x => x)
  obtain ⟨rfl, K₁, l₁, I₁⟩ := p
  have := hb A K₁ M X env s₁ Q E a (O.monoK l₁) I₁ D hE fun K'' M'' s₀ h' e args l' => k K'' M'' s₀ h' e args (l₁.trans l')
  cases r <;> simpa using this

theorem RzS.raise {x : Str} {np cpos pos ps : Pos} {msg : Str} {kk : Nat} (hg : GlobV C x (.type "ValueError")) (hk : sc.names.lookup x = some .globalImplicit) (hd : (x == ("__debug__" : Str)) = false := by decide) :
    RzS C n sc ρ "ValueError" (.Raise (some (.Call (.Name x np) [.Constant (.str msg) kk ps] [] cpos)) none pos) := by
  intro A K M X env s Q E a O I D hE k
  refine Raise_madeB PySem.F.excCall_ValueError PySem.F.excRaise_ValueError a.h ?_
  refine Calls.Name_function_global O.rd.fk ((O.rd.kindOf x).trans hk) (hg A K (M.join X) env s E _ O.rd.gl O.rd.bi I ⟨rfl, ?_⟩) hd
  refine Calls.spliced_cons (Calls.Constant_str (k := kk) (pos := ps) (Calls.spliced_nil ⟨by rw [sizeLine_eq]; simp, fun h' e hx => ?_⟩))
  exact k K M { s with toks := s.toks + 1 } h' e _ (HM.le.refl _) (I.tok _) D (O.weak fun y pv e => by simp at e) ⟨hx.keeps, hx.new, hx.there⟩

theorem ForR.run {t : Expr} {body : List Stmt} {ds : List PyData} (h : ForR C n sc V t body ρ ds) : ∀ {A : Around} {K M X : HM} {env : Env} {s : Shared} {R : Result → Shared → Prop} {E : Value → Shared → Prop} {it : Addr} {o : Obj}, AOk n A → EnvOk K M sc env ρ → Inv C K (M.join X) s → Disj M X →
    X it = some o → M it = none → IterIs K o ds → PassesOwn C.md A env E → (∀ e s', cameBackBy C.md A env E e s' → R (.error e) s') →
    (∀ K' M' s₀ h' e args, HM.le K K' → Inv C K' (M'.join (X.del it)) s₀ → Disj M' (X.del it) → EnvOk K' M' sc env [] → Heap.MadeExcOf s₀.heap h' e (.type V) args → E (.ref e) { s₀ with heap := h' }) →
    codeAny C.md A (.forLoop t (.ref it) body [] env) R s := by
  induction h with
  | @here ρ ρ₁ d ds hA hB =>
    intro A K M X env s R E it o a O I D hX hM hi hE hR k
    refine codeAny_of_tree ?_
    show wpAny C.md A ((forTurn t (.ref it) body [] env).onRaise (fun x => do noteFrame x env; theTreesLotGoes x)) _ _ s
    refine wpAny_noted ?_
    simp only [forTurn]
    refine wpAny_bind (wpAny_standAt (wpAny_bind (wpAny_onRaise (hi.next I ((HM.join_right hM).trans hX) fun v o' s₁ I₁ rv hi₁ _ => ?_))))
    obtain ⟨T, hc, hT, vs, hd⟩ := hi₁.kind
    rw [HM.join_set_right hM] at I₁
    have hX₁ : (X.set it o') it = some o' := HM.set_self ..
    have D₁ : Disj M (X.set it o') := fun b ob e => by
      have q : b ≠ it := fun q => by rw [q, hM] at e; cases e
      rw [HM.set_ne _ _ q]; exact D b ob e
    obtain ⟨o₂, ho₂, se⟩ := I₁.y it o' ((HM.join_right hM).trans hX₁)
    refine wpAny_bind (letOwned_skip ho₂ (se.cls.trans hc) hT (se.dat.trans hd) ?_)
    refine wpAny_bind (wpAny_mono (hA A K M (X.set it o') env s₁ _ v a O I₁ D₁ rv) (fun _ s₂ p => ?_) fun _ _ x => x)
    obtain ⟨M₂, I₂, D₂, O₂⟩ := p
    refine wpAny_bind (wpAny_mono (hB A K M₂ (X.set it o') env s₂ _ E a O₂ I₂ D₂ hE fun K' M' s₀ h' e args l' I' D' O' hx => ?_) (fun _ _ x => x) fun e s' he => ?_)
    · have hdel : HM.le (X.del it) (X.set it o') := fun b ob e => by
        have q : b ≠ it := fun q => by rw [q, HM.del_self] at e; cases e
        rw [HM.del_ne _ q] at e; rw [HM.set_ne _ _ q]; exact e
      refine k K' M' s₀ h' e args l' (I'.less fun b ob e => ?_) (D'.leX hdel) O' hx
      rcases HM.join_some e with e | ⟨e0, e⟩
      · exact HM.join_left e
      · rw [HM.join_right e0]; exact hdel _ _ e
    · exact wpAny_mono (hE e s' he) (fun _ s'' h => hR e s'' h) fun e' s'' h => hR e' s'' h
  | @later ρ ρ₁ ρ₂ d ds hA hB _ ih =>
    intro A K M X env s R E it o a O I D hX hM hi hE hR k
    refine codeAny_of_tree ?_
    show wpAny C.md A ((forTurn t (.ref it) body [] env).onRaise (fun x => do noteFrame x env; theTreesLotGoes x)) _ _ s
    refine wpAny_noted ?_
    simp only [forTurn]
    refine wpAny_bind (wpAny_standAt (wpAny_bind (wpAny_onRaise (hi.next I ((HM.join_right hM).trans hX) fun v o' s₁ I₁ rv hi₁ _ => ?_))))
    obtain ⟨T, hc, hT, vs, hd⟩ := hi₁.kind
    rw [HM.join_set_right hM] at I₁
    have hX₁ : (X.set it o') it = some o' := HM.set_self ..
    have D₁ : Disj M (X.set it o') := fun b ob e => by
      have q : b ≠ it := fun q => by rw [q, hM] at e; cases e
      rw [HM.set_ne _ _ q]; exact D b ob e
    obtain ⟨o₂, ho₂, se⟩ := I₁.y it o' ((HM.join_right hM).trans hX₁)
    refine wpAny_bind (letOwned_skip ho₂ (se.cls.trans hc) hT (se.dat.trans hd) ?_)
    refine wpAny_bind (wpAny_mono (hA A K M (X.set it o') env s₁ _ v a O I₁ D₁ rv) (fun _ s₂ p => ?_) fun _ _ x => x)
    obtain ⟨M₂, I₂, D₂, O₂⟩ := p
    refine wpAny_bind (wpAny_mono (hB A K M₂ (X.set it o') env s₂ _ a O₂ I₂ D₂) (fun f s₃ p => ?_) fun _ _ x => x)
    obtain ⟨K₃, M₃, l₃, I₃, D₃, rfl, O₃⟩ := p
    have hM₃ : M₃ it = none := by
      cases q : M₃ it with
      | none => rfl
      | some ob => have := D₃ _ _ q; rw [hX₁] at this; cases this
    have hdel : ∀ b, (X.set it o').del it b = X.del it b := fun b => by
      by_cases q : b = it
      · rw [q, HM.del_self, HM.del_self]
      · rw [HM.del_ne _ q, HM.del_ne _ q, HM.set_ne _ _ q]
    refine wpAny_pure ⟨rfl, ih a O₃ I₃ D₃ hX₁ hM₃ (hi₁.mono l₃) hE hR fun K' M' s₀ h' e args l' I' D' O' hx => ?_⟩
    rw [funext hdel] at I' D'
    exact k K' M' s₀ h' e args (l₃.trans l') I' D' O' hx

theorem RzS.for {t iter : Expr} {body : List Stmt} {pos : Pos} {ds : List PyData} (hi : EvI C n sc ρ iter ds) (h : ForR C n sc V t body ρ ds)
    (hs : ∀ (env : Env) (x : Value), foldedSetIterable iter env x = pure x := by intro _ _; rfl) : RzS C n sc ρ V (.For t iter body [] pos) := by
  intro A K M X env s Q E a O I D hE k
  refine wpAny_For (hi A K (M.join X) env s E _ a (O.rdX X) I fun it o s₂ K₂ l₂ hY hK I₂ hio => ?_) (hs env)
  have hM : M it = none := by
    cases q : M it with
    | none => rfl
    | some ob => rw [HM.join_left q] at hY; cases hY
  have hX : X it = none := by rw [HM.join_right hM] at hY; exact hY
  rw [HM.join_set_right hM] at I₂
  have D₂ : Disj M (X.set it o) := fun b ob e => by
    have q : b ≠ it := fun q => by rw [q, hM] at e; cases e
    rw [HM.set_ne _ _ q]; exact D b ob e
  have hdel : ∀ b, (X.set it o).del it b = X b := fun b => by
    by_cases q : b = it
    · rw [q, HM.del_self, hX]
    · rw [HM.del_ne _ q, HM.set_ne _ _ q]
  refine h.run a (O.monoK l₂) I₂ D₂ (HM.set_self ..) hM hio hE (fun e s' h => h) fun K' M' s₀ h' e args l' I' D' O' hx => ?_
  rw [funext hdel] at I' D'
  exact k K' M' s₀ h' e args (l₂.trans l') I' D' O' hx

structure Low (C : Cx) (K Y : HM) (base : Heap) : Prop where
  k : ∀ a o, K a = some o → base.get? a = some o
  y : ∀ a o, Y a = some o → (∃ o', base.get? a = some o' ∧ SE o o') ∨ ∃ es ep, o.data = .dict es ep
  tab : ∃ ps, base.get? C.P = some { cls := .none, data := .fields ps } ∧ C.tab ps

theorem Low.inv {K Y : HM} {s : Shared} {base h' : Heap} (L : Low C K Y base) (I : Inv C K Y s) (hb : base.StaysIn h') (hu : s.heap.UpToSlots h') : Inv C K Y { s with heap := h' } where
  k := fun a o e => hb _ _ (L.k a o e)
  y := fun a o e => by
    rcases L.y a o e with ⟨o', h1, se⟩ | ⟨es, ep, hd⟩
    · exact ⟨o', hb _ _ h1, se⟩
    · obtain ⟨o', h1, se⟩ := I.y a o e
      obtain ⟨sl, h2⟩ := hu a o' h1 fun vs q => by rw [se.dat, hd] at q; cases q
      exact ⟨_, h2, ⟨se.cls, se.dict, se.dat, fun q => absurd hd (q es ep)⟩⟩
  dj := I.dj
  top := I.top
  pk := I.pk
  py := I.py
  tab := let ⟨ps, e, r⟩ := L.tab; ⟨ps, hb _ _ e, r⟩
  os := I.os
  gens := I.gens

def OutF (Y : HM) (outer : List Env) : Prop := ∀ env ∈ outer, env.scope.kind = .function ∧ ∃ L o es ep, env.frame = some L ∧ Y L = some o ∧ o.data = .dict es ep

theorem OutF.frames {K Y : HM} {s : Shared} {base : Heap} (I : Inv C K Y s) : ∀ {outer : List Env}, OutF Y outer → (∀ env ∈ outer, ∀ L, env.frame = some L → base.get? L = none) → s.heap.FunFrames base outer
  | [], _, _ => trivial
  | env :: r, h, hb => by
    obtain ⟨hk, L, o, es, ep, hf, hY, hd⟩ := h env (List.mem_cons_self ..)
    obtain ⟨o', h1, se⟩ := I.y L o hY
    exact ⟨by rw [hk]; decide, ⟨L, o', hf, hb env (List.mem_cons_self ..) L hf, h1, fun vs q => by rw [se.dat, hd] at q; cases q⟩, OutF.frames I (fun e he => h e (List.mem_cons_of_mem _ he)) fun e he => hb e (List.mem_cons_of_mem _ he)⟩

theorem call_raise {f : Addr} {ps : List Str} {body : List Stmt} {scope : Scope} {ds : List PyData} {outer : List Env} (F : FnAt C f ps body scope) (hlen : ds.length = ps.length) (hl : ∃ mc, NsIn C.K0 cStatics mc ∧ mc "sys.recursionlimit" = none) (hb : Rz C n scope (params ps ds) V body)
    {K Y : HM} {vs : List Value} {A : Around} {s : Shared} {E : Value → Shared → Prop} {Q : Value → Shared → Prop} (q : RepAll K vs ds) (a : AOk (n + 1) A) (I : Inv C K Y s) (hfr : A.frames = some outer) (hout : OutF Y outer)
    (k : ∀ K' s' base e a0, HM.le K K' → Inv C K' Y s' → Low C K' Y base → Heap.FlyingW base outer e (.type V) a0 s'.heap → E (.ref e) s') : wpAny C.md A (call (.ref f) vs) Q E s := by
  refine call_fn F hlen hl q a I fun env M s₁ a₁ O _ hf I₁ D => ?_
  refine hb (A.deeper env) K M Y env s₁ _ _ a₁ O I₁ D PassesOwn.leaving fun K' M' s₀ h' e args l' I' D' O' hx => ?_
  obtain ⟨oL, es, ep, hL, hLd, hLk⟩ := O'.loc
  obtain ⟨oL', hL', seL⟩ := I'.y _ _ (HM.join_left hL)
  have hYL : ∀ b o, M' b = some o → Y b = none := D'
  have jn : ∀ b o, Y b = some o → (M'.join Y) b = some o := fun b o e => by
    have : M' b = none := by
      cases q : M' b with
      | none => rfl
      | some o' => have := D' b o' q; rw [e] at this; cases this
    rw [HM.join_right this]; exact e
  have IY : Inv C K' Y s₀ := I'.less jn
  have hin : ∀ en ∈ (env :: outer), ∀ b, en.frame = some b → b ∈ (env :: outer).filterMap (·.frame) := fun en he b hb => List.mem_filterMap.mpr ⟨en, he, hb⟩
  have mem : ∀ b, b ∈ (env :: outer).filterMap (·.frame) → b = env.locals ∨ ∃ o es ep, Y b = some o ∧ o.data = .dict es ep := fun b hb => by
    obtain ⟨en, he, hf'⟩ := List.mem_filterMap.mp hb
    rcases List.mem_cons.mp he with rfl | he
    · rw [hf] at hf'; exact .inl (Option.some.inj hf').symm
    · obtain ⟨_, L, o, es, ep, h1, h2, h3⟩ := hout en he
      rw [h1] at hf'; cases hf'
      exact .inr ⟨o, es, ep, h2, h3⟩
  have notK : ∀ b, b ∈ (env :: outer).filterMap (·.frame) → K' b = none := fun b hb => by
    rcases mem b hb with rfl | ⟨o, _, _, hY, _⟩
    · exact I'.dj _ _ (HM.join_left hL)
    · exact I'.dj _ _ (jn b o hY)
  refine wpAny_leaves_madeW (base := hideAll s₀.heap ((env :: outer).filterMap (·.frame))) (Around.frames_deeper hfr) hf (fun b o q => of_hideAll _ q) ⟨by rw [O'.rd.scp, O'.rd.kind]; decide, ⟨env.locals, oL', hf, hideAll_none _ (hin env (List.mem_cons_self ..) _ hf), hL', fun vs q => by rw [seL.dat, hLd] at q; cases q⟩,
      OutF.frames IY hout fun en he L hL => hideAll_none _ (hin en (List.mem_cons_of_mem _ he) L hL)⟩ hx fun h'' t hfl htup hbt hsm => ?_
  have LW : Low C K' Y (hideAll s₀.heap ((env :: outer).filterMap (·.frame))) := by
    refine ⟨fun b o e => hideAll_get _ (I'.k b o e) (fun hm => by rw [notK b hm] at e; cases e), fun b o e => ?_, ?_⟩
    · by_cases hm : b ∈ (env :: outer).filterMap (·.frame)
      · rcases mem b hm with rfl | ⟨o', es', ep', hY, hd⟩
        · rw [hYL _ _ hL] at e; cases e
        · rw [hY] at e; cases e; exact .inr ⟨es', ep', hd⟩
      · obtain ⟨o', h1, se⟩ := IY.y b o e
        exact .inl ⟨o', hideAll_get _ h1 hm, se⟩
    · obtain ⟨ps, h1, r⟩ := I'.tab
      refine ⟨ps, hideAll_get _ h1 fun hm => ?_, r⟩
      rcases mem _ hm with e | ⟨o', _, _, hY, _⟩
      · have := I'.py; rw [e, HM.join_left hL] at this; cases this
      · have := IY.py; rw [hY] at this; cases this
  have hs' : s₀.heap.UpToSlots h'' := (Heap.UpToSlots.of_keeps hx.keeps).trans hsm
  exact k K' _ _ e _ l' (show Inv C K' Y { s₀ with heap := h'' } from LW.inv IY hfl.1 hs') LW hfl

theorem try_refused {f x y ve : Str} {pf pc px pa pv py pc2 pa2 ph pos : Pos} {kk : Nat} {es : List Expr} {fa : Addr} {ps : List Str} {body : List Stmt} {scope : Scope} {ds : List PyData} (F : FnAt C fa ps body scope) (hlen : ds.length = ps.length) (hl : ∃ mc, NsIn C.K0 cStatics mc ∧ mc "sys.recursionlimit" = none) (hb : Rz C n scope (params ps ds) "ValueError" body)
    (hg : GlobV C f (.ref fa)) (hk : sc.names.lookup f = some .globalImplicit) (hgv : GlobV C ve (.type "ValueError")) (hkv : sc.names.lookup ve = some .globalImplicit) (hy : sc.names.lookup y = some .local) (ha : EvL C (n + 1) sc ρ es ds) (hne : es ≠ [])
    (hd : (f == ("__debug__" : Str)) = false := by decide) (hdv : (ve == ("__debug__" : Str)) = false := by decide)
    {A : Around} {K M X : HM} {env : Env} {s : Shared} {E : Value → Shared → Prop} {outer : List Env} (a : AOk (n + 1) A) (O : EnvOk K M sc env ρ) (I : Inv C K (M.join X) s) (D : Disj M X) (hfr : A.frames = some (env :: outer)) (hf : env.frame = some env.locals) (hout : OutF X outer) :
    wpAny C.md A (exec (.Try [.Assign [.Name x px] (.Call (.Name f pf) es [] pc) pa] [.ExceptHandler (some (.Name ve pv)) none [.Assign [.Name y py] (.Constant (.bool true) kk pc2) pa2] ph] [] [] pos) env) (OutAt C K X sc env (.next ((y, .val (.bool true)) :: ρ))) E s := by
  refine wpAny_Try_except ?_
  have houtY : OutF (M.join X) (env :: outer) := fun en he => by
    rcases List.mem_cons.mp he with rfl | he
    · obtain ⟨oL, es', ep, hL, hLd, _⟩ := O.loc
      exact ⟨O.rd.fk, en.locals, oL, es', ep, hf, HM.join_left hL, hLd⟩
    · obtain ⟨h1, L, o, es', ep, h2, h3, h4⟩ := hout en he
      refine ⟨h1, L, o, es', ep, h2, ?_, h4⟩
      have : M L = none := by
        cases q : M L with
        | none => rfl
        | some o' => have := D L o' q; rw [h3] at this; cases this
      rw [HM.join_right this]; exact h3
  refine wpAny_execs_cons (wpAny_Assign_Name (call_name hg hk (O.rdX X) I hd (ha.callWith hne F.callee [] a (O.rdX X) I fun vs s' K' l I' q => ?_)) rfl)
  refine call_raise F hlen hl hb q a I' hfr houtY fun K₁ s₁ base e a0 l₁ I₁ L₁ fl₁ => ?_
  refine wpAny_looks_onW hfr hf fl₁ fun h₂ held₂ u₂ => ?_
  refine wpAny_landsW held₂ fun h₃ fl₃ u₃ => ?_
  have I₃ : Inv C K₁ (M.join X) { s₁ with heap := h₃ } := L₁.inv I₁ fl₃.1 (u₂.trans u₃)
  have hsub : isSubtype (.type "ValueError") (.type "ValueError") = pure true := by rw [isSubtype_type]; kernel_rfl
  have hexc : isSubtype (.type "ValueError") (.type "BaseException") = pure true := by rw [isSubtype_type]; kernel_rfl
  have hnt : isSubtype (.type ((Manifest.find? "ValueError").elim "type" fun x => x.metatype)) (.type "tuple") = pure false := by
    rw [isSubtype_type]; kernel_rfl
  refine wpAny_handleBy_builtin (X := "ValueError") (T := "ValueError") (b := true) hexc hnt hsub ?_
  have O₃ : EnvOk K₁ M sc env ρ := (O.monoK l).monoK l₁
  refine Calls.Name_function_global O.rd.fk ((O.rd.kindOf ve).trans hkv) (hgv _ K₁ (M.join X) env _ _ _ O.rd.gl O.rd.bi I₃ ⟨rfl, ?_, ?_⟩) hdv
  · obtain ⟨ob, h1, h2⟩ := fl₃.there
    exact ⟨ob, h1, h2⟩
  · show wpAny C.md (A.mark (some (.ref e))) (setFlight (.ref e) none) _ _ _
    refine lands_againW fl₃ fun h₄ fl₄ u₄ => ?_
    have I₄ : Inv C K₁ (M.join X) { s₁ with heap := h₄ } := L₁.inv I₁ fl₄.1 ((u₂.trans u₃).trans u₄)
    refine wpAny_execs_cons (wpAny_Assign_Name (wpAny_Constant_bool (O₃.store (pv := .val (.bool true)) I₄ D (.inl hy) (.bool true) fun s' M' I' D' O' => ?_)) rfl)
    exact wpAny_execs_nil ⟨K₁, M', l.trans l₁, I', D', rfl, O'⟩
end
end Sq
end

section
set_option autoImplicit false
set_option linter.unusedVariables false
open PySem PyProof.Rows
namespace Sq
def fstmt (i : Nat) : Stmt := (PySem.Challenge.pw_sx_vsqueeze_7.main.body[i]?).getD (.Pass ⟨0, 0, 0, 0⟩)
def bodyOf : Stmt → List Stmt
  | .FunctionDef _ _ b _ _ _ _ _ _ _ => b
  | _ => []
def scopeOf : Stmt → Scope
  | .FunctionDef _ _ _ _ _ _ s _ _ _ => s
  | _ => default
def paramsOf : Stmt → List Str
  | .FunctionDef _ a _ _ _ _ _ _ _ _ => a.args.map (·.arg)
  | _ => []
def nameOf : Stmt → Str
  | .FunctionDef n _ _ _ _ _ _ _ _ _ => n
  | _ => ""
abbrev fb (i : Nat) : List Stmt := bodyOf (fstmt i)
abbrev fs (i : Nat) : Scope := scopeOf (fstmt i)
abbrev fp (i : Nat) : List Str := paramsOf (fstmt i)
abbrev fn (i : Nat) : Str := nameOf (fstmt i)

def idx : List Nat := [1, 2, 3, 4, 5, 6, 7, 8, 9, 10, 11, 12, 13, 14, 15, 21, 22, 23, 24, 25, 26, 27, 28, 29, 30, 31]

structure Gs (C : Cx) : Prop where
  glb : ∃ mg mb, Glb C mg mb ∧ (mg "type" = none ∧ mb "type" = some (.type "type")) ∧ mg "int" = none ∧ mb "int" = some (.type "int")
  len : GlobV C "len" (.builtin "len")
  min : GlobV C "min" (.builtin "min")
  max : GlobV C "max" (.builtin "max")
  sum : GlobV C "sum" (.builtin "sum")
  divmod : GlobV C "divmod" (.builtin "divmod")
  sorted : GlobV C "sorted" (.builtin "sorted")
  all : GlobV C "all" (.builtin "all")
  range : GlobV C "range" (.type "range")
  list : GlobV C "list" (.type "list")
  dict : GlobV C "dict" (.type "dict")
  type : GlobV C "type" (.type "type")
  int : GlobV C "int" (.type "int")
  tuple : GlobV C "tuple" (.type "tuple")
  verr : GlobV C "ValueError" (.type "ValueError")
  fns : ∀ i ∈ idx, ∃ a, GlobV C (fn i) (.ref a) ∧ FnAt C a (fp i) (fb i) (fs i)
  plain : ∃ v, GlobV C "_law_plain" v ∧ Rep C.K0 v (.tuple (nums [0, 1, 2, 97, 98, 254, 255, 255]))
  spans : ∃ v, GlobV C "_law_spans" v ∧ Rep C.K0 v (.tuple (nums [4, 5, 7, 255, 255]))
  extras : ∃ v, GlobV C "_law_extras" v ∧ Rep C.K0 v (.tuple (nums [0, 1, 2, 97, 254, 255, 256, 7]))
  figures : ∃ v, GlobV C "_law_figures" v ∧ Rep C.K0 v (.tuple (nums [0, 1, 255, 256, 65535, 65536, 16777215, 16777216, 4278190080, 4294967295, 305419896]))
  tab : TabK C
  same : ∃ c a, CodeK C c ∧ GlobV C "_law_same" (.ref a) ∧ FnAt C a (fp 24) (fb 24) (fs 24) ∧ ∀ o fd, C.K0 a = some o → o.data = .func fd → fd.code = .ref c

def Fn (C : Cx) (n : Nat) (f : Str) (ds : List PyData) (r : PyData) : Prop := ∃ a, GlobV C f (.ref a) ∧ Callee C (.ref a) ∧ CallB C n (.ref a) ds r

section
variable {C : Cx} {n : Nat} {sc : Scope} {ρ : PEnv}
theorem Gs.lim (G : Gs C) : ∃ mc, NsIn C.K0 cStatics mc ∧ mc "sys.recursionlimit" = none := let ⟨_, _, g, _⟩ := G.glb; g.lim
theorem Gs.sys (G : Gs C) : ∃ a o, C.K0 a = some o ∧ sysModules < a := let ⟨_, ⟨o, _, _, h, _⟩, _⟩ := G.lim; ⟨cStatics, o, h, by decide⟩
theorem Gs.fnOf (G : Gs C) (i : Nat) {ds : List PyData} {r : PyData} (h : Ex C n (fs i) (params (fp i) ds) (fb i) (.ret r)) (hi : i ∈ idx := by decide) (hlen : ds.length = (fp i).length := by rfl) : Fn C (n + 1) (fn i) ds r := by
  obtain ⟨a, hg, F⟩ := G.fns i hi
  exact ⟨a, hg, F.callee, CallB.fn F hlen G.lim h⟩
theorem Fn.up {m : Nat} {f : Str} {ds : List PyData} {r : PyData} (h : Fn C n f ds r) (hm : n ≤ m) : Fn C m f ds r := let ⟨a, b, c, d⟩ := h; ⟨a, b, c, d.up hm⟩

theorem EvL.one {e : Expr} {d : PyData} (h : Ev C n sc ρ e d) (hs : ∀ x p, e ≠ .Starred x p := by intro _ _ q; cases q) : EvL C n sc ρ [e] [d] := .cons h hs .nil
theorem EvL.two {e1 e2 : Expr} {d1 d2 : PyData} (h1 : Ev C n sc ρ e1 d1) (h2 : Ev C n sc ρ e2 d2) (hs : ∀ x p, e1 ≠ .Starred x p := by intro _ _ q; cases q) (hs2 : ∀ x p, e2 ≠ .Starred x p := by intro _ _ q; cases q) : EvL C n sc ρ [e1, e2] [d1, d2] := .cons h1 hs (.one h2 hs2)
theorem EvL.three {e1 e2 e3 : Expr} {d1 d2 d3 : PyData} (h1 : Ev C n sc ρ e1 d1) (h2 : Ev C n sc ρ e2 d2) (h3 : Ev C n sc ρ e3 d3) (hs : ∀ x p, e1 ≠ .Starred x p := by intro _ _ q; cases q) (hs2 : ∀ x p, e2 ≠ .Starred x p := by intro _ _ q; cases q) (hs3 : ∀ x p, e3 ≠ .Starred x p := by intro _ _ q; cases q) : EvL C n sc ρ [e1, e2, e3] [d1, d2, d3] := .cons h1 hs (.two h2 h3 hs2 hs3)
theorem EvL.four {e1 e2 e3 e4 : Expr} {d1 d2 d3 d4 : PyData} (h1 : Ev C n sc ρ e1 d1) (h2 : Ev C n sc ρ e2 d2) (h3 : Ev C n sc ρ e3 d3) (h4 : Ev C n sc ρ e4 d4) (hs : ∀ x p, e1 ≠ .Starred x p := by intro _ _ q; cases q) (hs2 : ∀ x p, e2 ≠ .Starred x p := by intro _ _ q; cases q) (hs3 : ∀ x p, e3 ≠ .Starred x p := by intro _ _ q; cases q) (hs4 : ∀ x p, e4 ≠ .Starred x p := by intro _ _ q; cases q) : EvL C n sc ρ [e1, e2, e3, e4] [d1, d2, d3, d4] := .cons h1 hs (.three h2 h3 h4 hs2 hs3 hs4)

theorem Ev.fcall {f : Str} {pf pos : Pos} {es : List Expr} {ds : List PyData} {r : PyData} (h : Fn C n f ds r) (ha : EvL C n sc ρ es ds) (hk : sc.names.lookup f = some .globalImplicit := by rfl) (hne : es ≠ [] := by exact List.cons_ne_nil _ _) (hd : (f == ("__debug__" : Str)) = false := by decide) : Ev C n sc ρ (.Call (.Name f pf) es [] pos) r :=
  let ⟨_, hg, hc, hb⟩ := h; Ev.call hg hk hc ha hb hne hd
theorem Ev.bcall {f : Str} {pf pos : Pos} {es : List Expr} {ds : List PyData} {r : PyData} {id : String} (hg : GlobV C f (.builtin id)) (h : CallB C n (.builtin id) ds r) (ha : EvL C n sc ρ es ds) (hk : sc.names.lookup f = some .globalImplicit := by rfl) (hne : es ≠ [] := by exact List.cons_ne_nil _ _) (hd : (f == ("__debug__" : Str)) = false := by decide) : Ev C n sc ρ (.Call (.Name f pf) es [] pos) r :=
  Ev.call hg hk (.builtin _) ha h hne hd
theorem Ev.tcall {f : Str} {pf pos : Pos} {es : List Expr} {ds : List PyData} {r : PyData} {T : String} (hg : GlobV C f (.type T)) (h : CallB C n (.type T) ds r) (ha : EvL C n sc ρ es ds) (hk : sc.names.lookup f = some .globalImplicit := by rfl) (hne : es ≠ [] := by exact List.cons_ne_nil _ _) (hd : (f == ("__debug__" : Str)) = false := by decide) : Ev C n sc ρ (.Call (.Name f pf) es [] pos) r :=
  Ev.call hg hk (.type _) ha h hne hd
theorem Ev.glob {x : Str} {px : Pos} {d : PyData} (h : ∃ v, GlobV C x v ∧ Rep C.K0 v d) (hk : sc.names.lookup x = some .globalImplicit := by rfl) (hd : (x == ("__debug__" : Str)) = false := by decide) : Ev C n sc ρ (.Name x px) d := by
  intro A K Y env s E a R I
  obtain ⟨v, hg, r⟩ := h
  exact Calls.Name_function_global R.fk ((R.kindOf x).trans hk) (hg A K Y env s E _ R.gl R.bi I (.mk I (r.mono I.top))) hd

theorem Ev.atT {value slice : Expr} {pos : Pos} {ds : List PyData} {i : Int} {d : PyData} (hv : Ev C n sc ρ value (.tuple ds)) (hs : Ev C n sc ρ slice (.int i)) (hd : ds[i.toNat]? = some d := by rfl) (h0 : 0 ≤ i := by decide) (hb : i < 2 ^ 63 := by decide)
    (ns : NoSlice slice := by intro _ _; rfl) : Ev C n sc ρ (.Subscript value slice pos) d := Ev.itemT hv hs h0 hb hd ns
theorem Ev.atL {value slice : Expr} {pos : Pos} {ds : List PyData} {i : Int} {d : PyData} (hv : Ev C n sc ρ value (.list ds)) (hs : Ev C n sc ρ slice (.int i)) (hd : ds[i.toNat]? = some d := by rfl) (h0 : 0 ≤ i := by decide) (hb : i < 2 ^ 63 := by decide)
    (ns : NoSlice slice := by intro _ _; rfl) : Ev C n sc ρ (.Subscript value slice pos) d := Ev.itemL hv hs h0 hb hd ns
theorem Ev.len {x : Str} {pf pos : Pos} {e : Expr} {ds : List PyData} (G : Gs C) (h : Ev C n sc ρ e (.list ds)) (hl : ds.length < 2 ^ 62) (hk : sc.names.lookup ("len" : Str) = some .globalImplicit := by rfl) (hs : ∀ x p, e ≠ .Starred x p := by intro _ _ q; cases q) : Ev C n sc ρ (.Call (.Name "len" pf) [e] [] pos) (.int ds.length) :=
  Ev.bcall G.len (CallB.lenL hl) (.one h hs) hk
theorem Ev.cast {e : Expr} {d d' : PyData} (h : Ev C n sc ρ e d) (hd : d = d') : Ev C n sc ρ e d' := hd ▸ h
theorem EvN.cast {e : Expr} {d d' : List PyData} (h : EvN C n sc ρ e d) (hd : d = d') : EvN C n sc ρ e d' := hd ▸ h
theorem Tt.cast {e : Expr} {d d' : Bool} (h : Tt C n sc ρ e d) (hd : d = d') : Tt C n sc ρ e d' := hd ▸ h
theorem Tt.notT {e : Expr} {pos : Pos} (h : Tt C n sc ρ e true) : Tt C n sc ρ (.UnaryOp .Not e pos) false := Tt.not h
theorem Tt.notF {e : Expr} {pos : Pos} (h : Tt C n sc ρ e false) : Tt C n sc ρ (.UnaryOp .Not e pos) true := Tt.not h
theorem Sto.l {x : Str} (h : sc.names.lookup x = some .local := by rfl) : Sto sc x := .inl h
theorem Sto.c {x : Str} (h : sc.names.lookup x = some .cell := by rfl) : Sto sc x := .inr h
end

inductive Tr where
  | leaf (w s : Int)
  | node (w m : Int) (l r : Tr)
namespace Tr
def w : Tr → Int
  | leaf w _ => w
  | node w _ _ _ => w
def m : Tr → Int
  | leaf _ s => s
  | node _ m _ _ => m
def d : Tr → PyData
  | leaf w s => .tuple [.int w, .int s, .int s]
  | node w m l r => .tuple [.int w, .int m, l.d, r.d]
def rest : Tr → List PyData
  | leaf _ s => [.int s]
  | node _ _ l r => [l.d, r.d]
theorem d_eq (t : Tr) : t.d = .tuple (.int t.w :: .int t.m :: t.rest) := by cases t <;> rfl
def lt (a b : Tr) : Bool := decide (a.w < b.w ∨ a.w = b.w ∧ a.m < b.m)
def join (a b : Tr) : Tr := .node (a.w + b.w) (min a.m b.m) a b
end Tr
def ins (t : Tr) : List Tr → List Tr
  | [] => [t]
  | o :: r => if t.lt o then t :: o :: r else o :: ins t r
theorem ins_length (t : Tr) (f : List Tr) : (ins t f).length = f.length + 1 := by
  induction f with
  | nil => rfl
  | cons o r ih => unfold ins; split <;> simp [ih]

section
variable {C : Cx} {n : Nat}
theorem lighter_fn (G : Gs C) {w1 s1 w2 s2 : Int} {r1 r2 : List PyData} : Fn C (n + 1) "lighter" [.tuple (.int w1 :: .int s1 :: r1), .tuple (.int w2 :: .int s2 :: r2)] (.bool (decide (w1 < w2 ∨ w1 = w2 ∧ s1 < s2))) := by
  refine G.fnOf 2 ?_
  by_cases h : w1 = w2
  · refine Ex.cons (Es.iff (b := false) ((Tt.cmp (.atT (.name rfl) .int) (.atT (.name rfl) .int) Bin.neI).cast (by simp [h])) Ex.nil) ?_
    refine Ex.ret (Es.ret ((Ev.cmp (.atT (.name rfl) .int) (.atT (.name rfl) .int) Bin.lt).cast ?_))
    subst h; simp
  · refine Ex.ret (Es.iff (b := true) ((Tt.cmp (.atT (.name rfl) .int) (.atT (.name rfl) .int) Bin.neI).cast (by simp [h])) ?_)
    refine Ex.ret (Es.ret ((Ev.cmp (.atT (.name rfl) .int) (.atT (.name rfl) .int) Bin.lt).cast ?_))
    simp [h]
theorem lighter_tr (G : Gs C) (a b : Tr) : Fn C (n + 1) "lighter" [a.d, b.d] (.bool (a.lt b)) := by
  rw [a.d_eq, b.d_eq]; exact lighter_fn G
end
end Sq
end

section
set_option autoImplicit false
set_option linter.unusedVariables false
open PySem PyProof.Rows
namespace Sq
def stAt (i j : Nat) : Stmt := ((fb i)[j]?).getD (.Pass ⟨0, 0, 0, 0⟩)
def forT : Stmt → Expr
  | .For t _ _ _ _ => t
  | _ => .Constant .none 0 ⟨0, 0, 0, 0⟩
def forB : Stmt → List Stmt
  | .For _ _ b _ _ => b
  | .While _ b _ _ => b
  | _ => []
def whT : Stmt → Expr
  | .While t _ _ _ => t
  | _ => .Constant .none 0 ⟨0, 0, 0, 0⟩

def Sub (ρ' ρ : PEnv) : Prop := ∀ x pv, ρ'.lookup x = some pv → ρ.lookup x = some pv
theorem Sub.nil {ρ : PEnv} : Sub [] ρ := fun x pv e => by simp at e
theorem Sub.cons {ρ ρ' : PEnv} {k : Str} {v : PV} (h : ρ.lookup k = some v) (h' : Sub ρ' ρ) : Sub ((k, v) :: ρ') ρ := fun x pv e => by
  rw [List.lookup_cons] at e
  cases q : x == k with
  | true => rw [q] at e; cases e; rw [eq_of_beq q]; exact h
  | false => rw [q] at e; exact h' x pv e

section
variable {C : Cx} {n : Nat}
abbrev insR (b : Bool) (out : List PyData) (F : List Tr) (t : Tr) : PEnv := [("placed", .val (.bool b)), ("out", .own out), ("forest", .val (.list (F.map Tr.d))), ("tree", .val t.d)]

theorem ins_loopT (G : Gs C) (F : List Tr) (t : Tr) : ∀ (f : List Tr) (out : List PyData), out.length + f.length ≤ 1000000 → ForB C (n + 1) (fs 3) (forT (stAt 3 2)) (forB (stAt 3 2)) (insR true out F t) (f.map Tr.d) (insR true (out ++ f.map Tr.d) F t)
  | [], out, _ => by simpa using ForB.nil
  | o :: f, out, h => by
    simp only [List.length_cons] at h
    refine ForB.cons (ρ₂ := insR true (out ++ [o.d]) F t) (As.name .l) ?_ (by simpa using ins_loopT G F t f (out ++ [o.d]) (by simp; omega))
    refine Ex.post (ρ₁ := ("out", .own (out ++ [o.d])) :: ("other", .val o.d) :: insR true out F t) ?_ (Sub.cons rfl (Sub.cons rfl (Sub.cons rfl (Sub.cons rfl Sub.nil))))
    refine Ex.cons (Es.iff (b := false) (Tt.boolOp (.andF (Tt.notT (Tt.val (.name rfl))))) Ex.nil) ?_
    exact Ex.cons (Es.append rfl (.name rfl) (by intro _ _ q; cases q) (by rw [sizeLine_eq]; omega)) Ex.nil

theorem ins_loopF (G : Gs C) (F : List Tr) (t : Tr) : ∀ (f : List Tr) (out : List PyData), out.length + f.length ≤ 100000 → ∃ b out', (if b then out' = out ++ (ins t f).map Tr.d else out' = out ++ f.map Tr.d ∧ ins t f = f ++ [t]) ∧ ForB C (n + 1) (fs 3) (forT (stAt 3 2)) (forB (stAt 3 2)) (insR false out F t) (f.map Tr.d) (insR b out' F t)
  | [], out, _ => ⟨false, out, by simp [ins], by simpa using ForB.nil⟩
  | o :: f, out, h => by
    simp only [List.length_cons] at h
    cases hl : t.lt o with
    | true =>
      refine ⟨true, out ++ (ins t (o :: f)).map Tr.d, by simp, ?_⟩
      have := ins_loopT (n := n) G F t f (out ++ [t.d] ++ [o.d]) (by simp; omega)
      refine ForB.cons (ρ₂ := insR true (out ++ [t.d] ++ [o.d]) F t) (As.name .l) ?_ (by simpa [ins, hl] using this)
      refine Ex.post (ρ₁ := ("out", .own (out ++ [t.d] ++ [o.d])) :: ("placed", .val (.bool true)) :: ("out", .own (out ++ [t.d])) :: ("other", .val o.d) :: insR false out F t) ?_ (Sub.cons rfl (Sub.cons rfl (Sub.cons rfl (Sub.cons rfl Sub.nil))))
      refine Ex.cons (Es.iff (b := true) (Tt.boolOp (.andT (Tt.notF (Tt.val (.name rfl))) (.andT (Tt.val ((Ev.fcall (lighter_tr G t o) (.two (.name rfl) (.name rfl))).cast (by rw [hl]))) .andNil)))
        (Ex.cons (Es.append rfl (.name rfl) (by intro _ _ q; cases q) (by rw [sizeLine_eq]; omega)) (Ex.cons (Es.assign .boolC (.inl rfl)) Ex.nil))) ?_
      exact Ex.cons (Es.append rfl (.name rfl) (by intro _ _ q; cases q) (by rw [sizeLine_eq]; simp; omega)) Ex.nil
    | false =>
      obtain ⟨b, out', hb, hF⟩ := ins_loopF G F t f (out ++ [o.d]) (by simp; omega)
      refine ⟨b, out', ?_, ?_⟩
      · cases b with
        | true => simpa [ins, hl] using hb
        | false => simpa [ins, hl] using hb
      · refine ForB.cons (ρ₂ := insR false (out ++ [o.d]) F t) (As.name .l) ?_ (by simpa using hF)
        refine Ex.post (ρ₁ := ("out", .own (out ++ [o.d])) :: ("other", .val o.d) :: insR false out F t) ?_ (Sub.cons rfl (Sub.cons rfl (Sub.cons rfl (Sub.cons rfl Sub.nil))))
        refine Ex.cons (Es.iff (b := false) (Tt.boolOp (.andT (Tt.notF (Tt.val (.name rfl))) (.andF (Tt.val ((Ev.fcall (lighter_tr G t o) (.two (.name rfl) (.name rfl))).cast (by rw [hl])))))) Ex.nil) ?_
        exact Ex.cons (Es.append rfl (.name rfl) (by intro _ _ q; cases q) (by rw [sizeLine_eq]; omega)) Ex.nil

theorem insert_fn (G : Gs C) (F : List Tr) (t : Tr) (h : F.length ≤ 10000) : Fn C (n + 2) "insert_sorted" [.list (F.map Tr.d), t.d] (.list ((ins t F).map Tr.d)) := by
  refine G.fnOf 3 ?_
  refine Ex.cons (Es.assignN (.list .nil) (.inl rfl)) (Ex.cons (Es.assign .boolC (.inl rfl)) ?_)
  obtain ⟨b, out', hb, hF⟩ := ins_loopF (n := n) G F t F [] (by simp; omega)
  have hF' : ForB C (n + 1) (fs 3) (forT (stAt 3 2)) (forB (stAt 3 2)) (("placed", .val (.bool false)) :: ("out", .own []) :: params (fp 3) [.list (F.map Tr.d), t.d]) (F.map Tr.d) (insR b out' F t) := hF
  refine Ex.cons (Es.for (.list (.name rfl)) hF') ?_
  cases b with
  | true =>
    simp only [if_true, List.nil_append] at hb
    subst hb
    refine Ex.cons (Es.iff (b := false) (Tt.notT (Tt.val (.name rfl))) Ex.nil) ?_
    exact Ex.frz (x := "out") rfl (Ex.ret (Es.ret (.name rfl)))
  | false =>
    simp only [Bool.false_eq_true, if_false, List.nil_append] at hb
    obtain ⟨rfl, he⟩ := hb
    refine Ex.cons (Es.iff (b := true) (Tt.notF (Tt.val (.name rfl))) (Ex.cons (Es.append rfl (.name rfl) (by intro _ _ q; cases q) (by rw [sizeLine_eq]; simp; omega)) Ex.nil)) ?_
    refine Ex.frz (x := "out") rfl (Ex.ret (Es.ret ((Ev.name rfl).cast ?_)))
    rw [he]; simp
end
end Sq
end

section
set_option autoImplicit false
set_option linter.unusedVariables false
open PySem PyProof.Rows
namespace Sq

theorem clip_nat (k n : Nat) : (max 0 (min (if (k : Int) < 0 then (k : Int) + n else k) n)).toNat = min k n := by
  rw [if_neg (by omega)]; omega
theorem sliceD_from {α : Type} (xs : List α) (k : Nat) : sliceD xs (some (k : Int)) none = xs.drop k := by
  unfold sliceD
  simp only [sliceBounds, Option.getD_none, show (1 : Int) > 0 from by decide, if_true, clip_nat]
  rw [show ((xs.length : Nat) : Int).toNat = xs.length by omega, List.take_length]
  rcases Nat.le_total k xs.length with h | h
  · rw [Nat.min_eq_left h]
  · rw [Nat.min_eq_right h, List.drop_of_length_le (Nat.le_refl _), List.drop_of_length_le h]
theorem take_min {α : Type} (xs : List α) (k : Nat) : xs.take (min k xs.length) = xs.take k := by
  rcases Nat.le_total k xs.length with h | h
  · rw [Nat.min_eq_left h]
  · rw [Nat.min_eq_right h, List.take_of_length_le (Nat.le_refl _), List.take_of_length_le h]
theorem sliceD_to {α : Type} (xs : List α) (k : Nat) : sliceD xs none (some (k : Int)) = xs.take k := by
  unfold sliceD
  simp only [sliceBounds, Option.getD_none, show (1 : Int) > 0 from by decide, if_true, clip_nat]
  rw [take_min]; rfl
theorem sliceD_both {α : Type} (xs : List α) (a b : Nat) : sliceD xs (some (a : Int)) (some (b : Int)) = (xs.take b).drop a := by
  unfold sliceD
  simp only [sliceBounds, Option.getD_none, show (1 : Int) > 0 from by decide, if_true, clip_nat]
  rw [take_min]
  rcases Nat.le_total a xs.length with h | h
  · rw [Nat.min_eq_left h]
  · rw [Nat.min_eq_right h, List.drop_of_length_le (by rw [List.length_take]; omega), List.drop_of_length_le (by rw [List.length_take]; omega)]

theorem flat_one {α : Type} (k : Nat) (x : α) : (List.replicate k [x]).flatten = List.replicate k x := by
  induction k with
  | zero => rfl
  | succ k ih => simp [List.replicate_succ, ih]

section
variable {C : Cx} {n : Nat} {sc : Scope} {ρ : PEnv}
theorem EvN.fill {l r : Expr} {pos : Pos} {x : PyData} {k : Nat} (hl : Ev C n sc ρ l (.list [x])) (hr : Ev C n sc ρ r (.int k)) (hk : k ≤ 100000) : EvN C n sc ρ (.BinOp l .Mult r pos) (List.replicate k x) :=
  (EvN.bin hl hr (BinN.rep (by omega) (by omega) (by simp; omega))).cast (by rw [Int.toNat_natCast, flat_one])

theorem EvI.upto {pf pos : Pos} {e : Expr} {k : Int} (G : Gs C) (h : Ev C n sc ρ e (.int k)) (hk : -1000000 ≤ k ∧ k ≤ 1000000) (hr : sc.names.lookup ("range" : Str) = some .globalImplicit := by rfl) (hs : ∀ x p, e ≠ .Starred x p := by intro _ _ q; cases q) : EvI C n sc ρ (.Call (.Name "range" pf) [e] [] pos) ((List.range k.toNat).map fun i : Nat => .int i) := by
  have := EvI.range1 (pf := pf) (pos := pos) G.range hr (.one h hs) (by omega) (by omega)
  rwa [rangeD_zero] at this
end

def inc (acc : List Int) (s : Int) : List Int := acc.set s.toNat (acc.getD s.toNat 0 + 1)
theorem inc_length (acc : List Int) (s : Int) : (inc acc s).length = acc.length := by simp [inc]
theorem nums_set (acc : List Int) (i : Nat) (x : Int) : (nums acc).set i (.int x) = nums (acc.set i x) := by simp [nums, List.map_set]
theorem nums_get {acc : List Int} {i : Nat} (h : i < acc.length) : (nums acc)[i]? = some (.int (acc.getD i 0)) := by simp [nums, List.getElem?_eq_getElem h]
theorem nums_length (acc : List Int) : (nums acc).length = acc.length := by simp [nums]

section
variable {C : Cx} {n : Nat}
theorem count_loop (G : Gs C) (S : PyData) (N : PyData) : ∀ (ss acc : List Int), acc.length ≤ 1000000 → (∀ s ∈ ss, 0 ≤ s ∧ s < acc.length) →
    ForB C n (fs 1) (forT (stAt 1 1)) (forB (stAt 1 1)) [("counts", .own (nums acc)), ("symbols", .val S), ("n", .val N)] (nums ss) [("counts", .own (nums (ss.foldl inc acc))), ("symbols", .val S), ("n", .val N)]
  | [], acc, _, _ => .nil
  | s :: ss, acc, hl, h => by
    obtain ⟨h0, h1⟩ := h s (List.mem_cons_self ..)
    have hi : s.toNat < acc.length := by omega
    refine ForB.cons (ρ₂ := [("counts", .own (nums (inc acc s))), ("symbols", .val S), ("n", .val N)]) (As.name .l) ?_ (count_loop G S N ss (inc acc s) (by rw [inc_length]; exact hl) fun x hx => by rw [inc_length]; exact h x (List.mem_cons_of_mem _ hx))
    refine Ex.post (ρ₁ := ("counts", .own (nums (inc acc s))) :: ("s", .val (.int s)) :: [("counts", .own (nums acc)), ("symbols", .val S), ("n", .val N)]) ?_ (Sub.cons rfl (Sub.cons rfl (Sub.cons rfl Sub.nil)))
    rw [inc, ← nums_set]
    exact Ex.cons (Es.setItem rfl (.name rfl) (.bin (.itemOwn rfl (.name rfl) h0 (by omega) (nums_get hi)) .int .add) h0 (by rw [nums_length]; exact h1) (by omega)) Ex.nil
theorem count_fn (G : Gs C) (ss : List Int) (N : Nat) (hN : N ≤ 100000) (h : ∀ s ∈ ss, 0 ≤ s ∧ s < N) : Fn C (n + 1) "count_symbols" [.list (nums ss), .int N] (.list (nums (ss.foldl inc (List.replicate N 0)))) := by
  refine G.fnOf 1 ?_
  refine Ex.cons (Es.assignN ((EvN.fill (EvN.list (.one .int)).ev (.name rfl) hN).cast (show _ = nums (List.replicate N 0) by simp [nums])) (.inl rfl)) ?_
  refine Ex.cons (Es.for (.list (.name rfl)) (count_loop G _ _ ss (List.replicate N 0) (by simp; omega) (by simpa using h))) ?_
  exact Ex.frz (x := "counts") rfl (Ex.ret (Es.ret (.name rfl)))
end

def first1 (fr : List Int) (F : List Tr) (k : Nat) : List Tr := if 0 < fr.getD k 0 then ins (.leaf (fr.getD k 0) k) F else F
def forest0 (fr : List Int) (ks : List Nat) (F : List Tr) : List Tr := ks.foldl (first1 fr) F
def stepF : List Tr → List Tr
  | a :: b :: r => ins (a.join b) r
  | f => f
def iterF : Nat → List Tr → List Tr
  | 0, f => f
  | k + 1, f => iterF k (stepF f)
def huffF (fr : List Int) : List Tr := iterF ((forest0 fr (List.range fr.length) []).length - 1) (forest0 fr (List.range fr.length) [])
def optD : List Tr → PyData
  | [] => .none
  | t :: _ => t.d
theorem first1_length (fr : List Int) (F : List Tr) (k : Nat) : (first1 fr F k).length ≤ F.length + 1 := by
  unfold first1; split <;> simp [ins_length]
theorem forest0_length (fr : List Int) : ∀ (ks : List Nat) (F : List Tr), (forest0 fr ks F).length ≤ F.length + ks.length
  | [], F => by simp [forest0]
  | k :: ks, F => by
    have := forest0_length fr ks (first1 fr F k)
    have h2 := first1_length fr F k
    simp only [forest0, List.foldl_cons, List.length_cons] at this ⊢; omega
theorem stepF_length {f : List Tr} (h : 2 ≤ f.length) : (stepF f).length = f.length - 1 := by
  match f, h with
  | a :: b :: r, _ => simp [stepF, ins_length]

section
variable {C : Cx} {n : Nat}
theorem hf_loop1 (G : Gs C) (fr : List Int) (hfr : fr.length ≤ 9000) : ∀ (ks : List Nat) (F : List Tr), F.length + ks.length ≤ 9000 → (∀ k ∈ ks, k < fr.length) →
    ForB C (n + 2) (fs 4) (forT (stAt 4 1)) (forB (stAt 4 1)) [("forest", .val (.list (F.map Tr.d))), ("freq", .val (.list (nums fr)))] (ks.map fun i : Nat => .int i) [("forest", .val (.list ((forest0 fr ks F).map Tr.d))), ("freq", .val (.list (nums fr)))]
  | [], F, _, _ => .nil
  | k :: ks, F, hl, h => by
    have hk := h k (List.mem_cons_self ..)
    simp only [List.length_cons] at hl
    have hl2 := first1_length fr F k
    refine ForB.cons (ρ₂ := [("forest", .val (.list ((first1 fr F k).map Tr.d))), ("freq", .val (.list (nums fr)))]) (As.name .l) ?_ (hf_loop1 G fr hfr ks (first1 fr F k) (by omega) fun x hx => h x (List.mem_cons_of_mem _ hx))
    have hg : (nums fr)[((k : Nat) : Int).toNat]? = some (.int (fr.getD k 0)) := by rw [Int.toNat_natCast]; exact nums_get hk
    by_cases hp : 0 < fr.getD k 0
    · refine Ex.post (ρ₁ := ("forest", .val (.list ((ins (.leaf (fr.getD k 0) k) F).map Tr.d))) :: ("symbol", .val (.int k)) :: [("forest", .val (.list (F.map Tr.d))), ("freq", .val (.list (nums fr)))]) ?_ (by unfold first1; rw [if_pos hp]; exact Sub.cons rfl (Sub.cons rfl Sub.nil))
      refine Ex.cons (Es.iff (b := true) ((Tt.cmp (.atL (.name rfl) (.name rfl) hg (by omega) (by omega)) .int Bin.gt).cast (by simpa using hp)) ?_) Ex.nil
      exact Ex.cons (Es.assign (.fcall (insert_fn G F (.leaf (fr.getD k 0) k) (by omega)) (.two (.name rfl) (.tuple (.three (.atL (.name rfl) (.name rfl) hg (by omega) (by omega)) (.name rfl) (.name rfl))))) (.inl rfl)) Ex.nil
    · refine Ex.post (ρ₁ := ("symbol", .val (.int k)) :: [("forest", .val (.list (F.map Tr.d))), ("freq", .val (.list (nums fr)))]) ?_ (by unfold first1; rw [if_neg hp]; exact Sub.cons rfl (Sub.cons rfl Sub.nil))
      exact Ex.cons (Es.iff (b := false) ((Tt.cmp (.atL (.name rfl) (.name rfl) hg (by omega) (by omega)) .int Bin.gt).cast (by simpa using hp)) Ex.nil) Ex.nil

theorem hf_loop2 (G : Gs C) (S : PyData) : ∀ (ks : List Nat) (F : List Tr), ks.length + 1 ≤ F.length → F.length ≤ 9000 →
    ForB C (n + 2) (fs 4) (forT (stAt 4 3)) (forB (stAt 4 3)) [("forest", .val (.list (F.map Tr.d))), ("freq", .val S)] (ks.map fun i : Nat => .int i) [("forest", .val (.list ((iterF ks.length F).map Tr.d))), ("freq", .val S)]
  | [], F, _, _ => .nil
  | k :: ks, F, hl, h => by
    simp only [List.length_cons] at hl
    match F, hl, h with
    | a :: b :: r, hl, h =>
      simp only [List.length_cons] at hl h
      refine ForB.cons (ρ₂ := [("forest", .val (.list ((ins (a.join b) r).map Tr.d))), ("freq", .val S)]) (As.name .l) ?_ (hf_loop2 G S ks (ins (a.join b) r) (by rw [ins_length]; omega) (by rw [ins_length]; omega))
      refine Ex.post (ρ₁ := ("forest", .val (.list ((ins (a.join b) r).map Tr.d))) :: ("joined", .val (a.join b).d) :: ("right", .val (.tuple (.int b.w :: .int b.m :: b.rest))) :: ("left", .val (.tuple (.int a.w :: .int a.m :: a.rest))) :: ("_", .val (.int k)) :: [("forest", .val (.list ((a :: b :: r).map Tr.d))), ("freq", .val S)]) ?_ (Sub.cons rfl (Sub.cons rfl Sub.nil))
      refine Ex.cons (Es.assign ((Ev.atL (.name rfl) .int).cast a.d_eq) (.inl rfl)) ?_
      refine Ex.cons (Es.assign ((Ev.atL (.name rfl) .int).cast b.d_eq) (.inl rfl)) ?_
      refine Ex.cons (Es.assign ((Ev.tuple (.four (.bin (.atT (.name rfl) .int) (.atT (.name rfl) .int) .add) (.bcall G.min .min2 (.two (.atT (.name rfl) .int) (.atT (.name rfl) .int))) (.name rfl) (.name rfl))).cast (d' := (a.join b).d) ?_) (.inl rfl)) ?_
      · show _ = (Tr.node (a.w + b.w) (min a.m b.m) a b).d
        rw [Tr.d, ← a.d_eq, ← b.d_eq]
      refine Ex.cons (Es.assign (.fcall (insert_fn G r (a.join b) (by omega)) (.two ((EvN.slice (.name rfl) (.some .int) .none (by rw [sizeLine_eq]; simp; omega)).ev.cast ?_) (.name rfl))) (.inl rfl)) Ex.nil
      rw [show (some (2 : Int)) = some ((2 : Nat) : Int) from rfl, sliceD_from]; rfl

theorem huff_fn (G : Gs C) (fr : List Int) (hfr : fr.length ≤ 9000) : Fn C (n + 3) "huffman_tree" [.list (nums fr)] (optD (huffF fr)) := by
  refine G.fnOf 4 ?_
  have hlen := forest0_length fr (List.range fr.length) []
  simp only [List.length_nil, Nat.zero_add, List.length_range] at hlen
  refine Ex.cons (Es.assign (EvN.list .nil).ev (.inl rfl)) ?_
  refine Ex.cons (Es.for (ρ' := [("forest", .val (.list ((forest0 fr (List.range fr.length) []).map Tr.d))), ("freq", .val (.list (nums fr)))]) ((EvI.upto G (.bcall G.len (.lenL (by rw [nums_length]; omega)) (.one (.name rfl))) (by rw [nums_length]; omega))) ?_) ?_
  · rw [nums_length, Int.toNat_natCast]
    exact hf_loop1 G fr hfr (List.range fr.length) [] (by simp; omega) (by simp)
  have hl2 : ((forest0 fr (List.range fr.length) []).map Tr.d).length = (forest0 fr (List.range fr.length) []).length := by simp
  cases hF : forest0 fr (List.range fr.length) [] with
  | nil =>
    refine Ex.ret (Es.iff (b := true) ((Tt.cmp (.bcall G.len (.lenL (by simp)) (.one (.name rfl))) .int Bin.eqI).cast (by rfl)) ?_)
    have : huffF fr = [] := by unfold huffF; rw [hF]; rfl
    rw [this]
    exact Ex.ret (Es.ret .noneC)
  | cons t r =>
    rw [hF] at hlen hl2
    simp only [List.length_cons] at hlen
    refine Ex.cons (Es.iff (b := false) ((Tt.cmp (.bcall G.len (.lenL (by rw [hl2]; simp; omega)) (.one (.name rfl))) .int Bin.eqI).cast (by simp; omega)) Ex.nil) ?_
    refine Ex.cons (Es.for (ρ' := [("forest", .val (.list ((iterF (List.range r.length).length (t :: r)).map Tr.d))), ("freq", .val (.list (nums fr)))]) (EvI.upto G (.bin (.bcall G.len (.lenL (by rw [hl2]; simp; omega)) (.one (.name rfl))) .int .sub) (by rw [hl2]; simp; omega)) ?_) ?_
    · rw [show ((((t :: r).map Tr.d).length : Int) - 1).toNat = r.length by simp]
      exact hf_loop2 G _ (List.range r.length) (t :: r) (by simp) (by simp; omega)
    have e : huffF fr = iterF (List.range r.length).length (t :: r) := by unfold huffF; rw [hF]; simp
    rw [e]
    have hne : ∀ (k : Nat) (f : List Tr), k + 1 ≤ f.length → ∃ t' r', iterF k f = t' :: r' := by
      intro k
      induction k with
      | zero => intro f hf; match f, hf with | t' :: r', _ => exact ⟨t', r', rfl⟩
      | succ k ih => intro f hf; exact ih (stepF f) (by rw [stepF_length (by omega)]; omega)
    obtain ⟨t', r', e'⟩ := hne (List.range r.length).length (t :: r) (by simp)
    rw [e']
    exact Ex.ret (Es.ret (.atL (.name rfl) .int))
end
end Sq
end

section
set_option autoImplicit false
set_option linter.unusedVariables false
open PySem PyProof.Rows
namespace Sq

def capsV (caps : List (Str × PyData)) : PEnv := caps.map fun p => (p.1, .val p.2)
theorem capsV_mem {caps : List (Str × PyData)} {x : Str} {pv : PV} (h : (capsV caps).lookup x = some pv) : ∃ d, (x, d) ∈ caps ∧ pv = .val d := by
  induction caps with
  | nil => simp [capsV] at h
  | cons p r ih =>
    simp only [capsV, List.map_cons, List.lookup_cons] at h
    cases q : x == p.1 with
    | true => rw [q] at h; cases h; exact ⟨p.2, by rw [eq_of_beq q]; exact List.mem_cons_self .., rfl⟩
    | false => rw [q] at h; obtain ⟨d, h1, h2⟩ := ih h; exact ⟨d, List.mem_cons_of_mem _ h1, h2⟩
theorem CompK.of {sc scope : Scope} {ρ : PEnv} (caps : List (Str × PyData)) (h : ∀ p ∈ caps, ρ.lookup p.1 = some (.val p.2) ∧ sc.names.lookup p.1 = some .cell ∧ scope.names.lookup p.1 = some .free ∧ (relS scope sc).names.lookup p.1 = some .cell)
    (hf : scope.names.all (fun p => p.2 != .free || (caps.any fun q => p.1 == q.1)) = true) (hc : scope.names.all (fun p => p.2 != .cell) = true) (hl : scope.names.all (fun p => p.2 != .local || scope.names.lookup p.1 == some .local) = true) (hk : scope.kind = .function) : CompK sc scope ρ (capsV caps) where
  sees x pv e := by
    obtain ⟨d, h1, rfl⟩ := capsV_mem e
    exact (h _ h1).1
  kinds x pv e := by
    obtain ⟨d, h1, rfl⟩ := capsV_mem e
    exact ⟨(h _ h1).2.1, (h _ h1).2.2.1, (h _ h1).2.2.2, d, rfl⟩
  frees p hp hf' := by
    have := List.all_eq_true.mp hf p hp
    rw [hf'] at this
    simp only [bne_self_eq_false, Bool.false_or, List.any_eq_true] at this
    obtain ⟨q, hq, e⟩ := this
    have e' := eq_of_beq e
    clear h hf hc hl
    induction caps with
    | nil => cases hq
    | cons c r ih =>
      simp only [capsV, List.map_cons, List.lookup_cons]
      cases z : p.1 == c.1 with
      | true => rfl
      | false =>
        rcases List.mem_cons.mp hq with rfl | hq
        · rw [e] at z; cases z
        · exact ih hq
  cells p hp e := by
    have := List.all_eq_true.mp hc p hp
    rw [e] at this; simp at this
  locals p hp e := by
    have := List.all_eq_true.mp hl p hp
    rw [e] at this; simpa using this
  kind := hk

section
variable {C : Cx} {n : Nat} {sc : Scope} {caps : PEnv} {α : Type}
theorem CompB.each {x : Str} {px : Pos} {elt : Expr} {f g : α → PyData} (hx : sc.names.lookup x = some .local) : ∀ (l : List α), (∀ a ∈ l, Ev C n sc ((x, .val (f a)) :: caps) elt (g a)) → CompB C n sc caps (.Name x px) [] elt (l.map f) (l.map g)
  | [], _ => .nil
  | a :: l, h => .take (.name hx) (.inl rfl) (h a (List.mem_cons_self ..)) (CompB.each hx l fun b hb => h b (List.mem_cons_of_mem _ hb))
theorem CompB.each2 {x y : Str} {px py pt : Pos} {k : Nat} {elt : Expr} {u v g : α → PyData} (hx : sc.names.lookup x = some .local) (hy : sc.names.lookup y = some .local) : ∀ (l : List α), (∀ a ∈ l, Ev C n sc ((y, .val (v a)) :: (x, .val (u a)) :: caps) elt (g a)) → CompB C n sc caps (.Tuple [.Name x px, .Name y py] k pt) [] elt (l.map fun a => .tuple [u a, v a]) (l.map g)
  | [], _ => .nil
  | a :: l, h => .take (.two hx hy) (.inl rfl) (h a (List.mem_cons_self ..)) (CompB.each2 hx hy l fun b hb => h b (List.mem_cons_of_mem _ hb))
theorem CompB.eachIf {x : Str} {px : Pos} {elt c : Expr} {f g : α → PyData} {p : α → Bool} (hx : sc.names.lookup x = some .local) : ∀ (l : List α), (∀ a ∈ l, Tt C n sc ((x, .val (f a)) :: caps) c (p a)) → (∀ a ∈ l, p a = true → Ev C n sc ((x, .val (f a)) :: caps) elt (g a)) → CompB C n sc caps (.Name x px) [c] elt (l.map f) ((l.filter p).map g)
  | [], _, _ => .nil
  | a :: l, ht, h => by
    have ih := CompB.eachIf (px := px) hx l (fun b hb => ht b (List.mem_cons_of_mem _ hb)) fun b hb => h b (List.mem_cons_of_mem _ hb)
    have ha := ht a (List.mem_cons_self ..)
    cases hp : p a with
    | true => rw [List.filter_cons_of_pos hp]; rw [hp] at ha; exact .take (.name hx) (.inr ⟨c, rfl, ha⟩) (h a (List.mem_cons_self ..) hp) ih
    | false => rw [List.filter_cons_of_neg (by simp [hp])]; rw [hp] at ha; exact .skip (.name hx) rfl ha ih
theorem CompB.eachIf2 {x y : Str} {px py pt : Pos} {k : Nat} {elt c : Expr} {u v g : α → PyData} {p : α → Bool} (hx : sc.names.lookup x = some .local) (hy : sc.names.lookup y = some .local) : ∀ (l : List α), (∀ a ∈ l, Tt C n sc ((y, .val (v a)) :: (x, .val (u a)) :: caps) c (p a)) → (∀ a ∈ l, p a = true → Ev C n sc ((y, .val (v a)) :: (x, .val (u a)) :: caps) elt (g a)) → CompB C n sc caps (.Tuple [.Name x px, .Name y py] k pt) [c] elt (l.map fun a => .tuple [u a, v a]) ((l.filter p).map g)
  | [], _, _ => .nil
  | a :: l, ht, h => by
    have ih := CompB.eachIf2 (px := px) (py := py) (pt := pt) (k := k) hx hy l (fun b hb => ht b (List.mem_cons_of_mem _ hb)) fun b hb => h b (List.mem_cons_of_mem _ hb)
    have ha := ht a (List.mem_cons_self ..)
    cases hp : p a with
    | true => rw [List.filter_cons_of_pos hp]; rw [hp] at ha; exact .take (.two hx hy) (.inr ⟨c, rfl, ha⟩) (h a (List.mem_cons_self ..) hp) ih
    | false => rw [List.filter_cons_of_neg (by simp [hp])]; rw [hp] at ha; exact .skip (.two hx hy) rfl ha ih
end

section
variable {C : Cx} {n : Nat} {sc : Scope} {ρ : PEnv}
theorem Ev.pow2 {r l : Expr} {pos : Pos} {e : Int} (hl : Ev C n sc ρ l (.int 2)) (hr : Ev C n sc ρ r (.int e)) (h0 : 0 ≤ e) (h1 : e ≤ 100000) : Ev C n sc ρ (.BinOp l .Pow r pos) (.int (2 ^ e.toNat)) :=
  .bin hl hr (.pow h0 (by have : Builtin.Int.intBits 2 = 2 := by decide +kernel
                          rw [this]; omega))
theorem Ev.divN {l r : Expr} {pos : Pos} {a b : Int} (hl : Ev C n sc ρ l (.int a)) (hr : Ev C n sc ρ r (.int b)) (hb : 0 < b) (hp : b.natAbs < 1073741824) : Ev C n sc ρ (.BinOp l .FloorDiv r pos) (.int (a / b)) :=
  (Ev.bin hl hr (.fdiv (by omega) (PyProof.noPylong_small hp))).cast (by rw [Int.fdiv_eq_ediv_of_nonneg _ (by omega)])
theorem Ev.modN {l r : Expr} {pos : Pos} {a b : Int} (hl : Ev C n sc ρ l (.int a)) (hr : Ev C n sc ρ r (.int b)) (hb : 0 < b) : Ev C n sc ρ (.BinOp l .Mod r pos) (.int (a % b)) :=
  (Ev.bin hl hr (.fmod (by omega))).cast (by rw [Int.fmod_eq_emod_of_nonneg _ (by omega)])
theorem Ev.mulS {l r : Expr} {pos : Pos} {a b : Int} (hl : Ev C n sc ρ l (.int a)) (hr : Ev C n sc ρ r (.int b)) (h : -(2 ^ 64) < b ∧ b < 2 ^ 64) : Ev C n sc ρ (.BinOp l .Mult r pos) (.int (a * b)) :=
  .bin hl hr (.mul (.of_right (intBits_le_64 h.1 h.2)))
end

namespace Tr
def lv : Tr → Int → List (Int × Int)
  | leaf _ s, d => [(s, d)]
  | node _ _ l r, d => lv l (d + 1) ++ lv r (d + 1)
def sz : Tr → Nat
  | leaf _ _ => 1
  | node _ _ l r => l.sz + r.sz + 1
end Tr
def pd (p : Int × Int) : PyData := .tuple [.int p.1, .int p.2]
def sd (p : Tr × Int) : PyData := .tuple [p.1.d, .int p.2]
def szs : List (Tr × Int) → Nat
  | [] => 0
  | p :: r => p.1.sz + szs r
theorem Tr.sz_pos (t : Tr) : 1 ≤ t.sz := by cases t <;> simp [Tr.sz]
theorem szs_length : ∀ S : List (Tr × Int), S.length ≤ szs S
  | [] => Nat.le_refl _
  | p :: r => by have := szs_length r; have := p.1.sz_pos; simp [szs]; omega

section
variable {C : Cx} {n : Nat}
abbrev lvR (S : List (Tr × Int)) (out : List PyData) (T : PyData) : PEnv := [("stack", .own (S.reverse.map sd)), ("out", .own out), ("tree", .val T)]
theorem lv_loop (G : Gs C) (T : PyData) : ∀ (k : Nat) (S : List (Tr × Int)) (out : List PyData), szs S ≤ k → out.length + k ≤ 1000000 →
    WhB C n (fs 5) (whT (stAt 5 2)) (forB (stAt 5 2)) (lvR S out T) (lvR [] (out ++ (S.flatMap fun p => p.1.lv p.2).map pd) T)
  | k, [], out, _, _ => by
    simp only [List.flatMap_nil, List.map_nil, List.append_nil]
    exact .done ((Tt.cmp (.lenOwn G.len rfl rfl (by simp)) .int Bin.gt).cast (by simp))
  | 0, p :: S, out, h, _ => by have := p.1.sz_pos; simp [szs] at h; omega
  | k + 1, (t, lev) :: S, out, h, ho => by
    have hS := szs_length S
    simp only [szs] at h
    have hlen : (List.map sd ((t, lev) :: S).reverse).length = S.length + 1 := by simp
    have hown : List.lookup ("stack" : Str) (lvR ((t, lev) :: S) out T) = some (PV.own (S.reverse.map sd ++ [sd (t, lev)])) := by
      show some (PV.own (List.map sd ((t, lev) :: S).reverse)) = _
      simp
    have htest : Tt C n (fs 5) (lvR ((t, lev) :: S) out T) (whT (stAt 5 2)) true := (Tt.cmp (.lenOwn G.len rfl rfl (by rw [hlen]; have := t.sz_pos; omega)) .int Bin.gt).cast (by rw [hlen]; simp <;> omega)
    have h1 : Es C n (fs 5) (lvR ((t, lev) :: S) out T) ((forB (stAt 5 2))[0]?.getD (.Pass ⟨0, 0, 0, 0⟩)) (.next (("level", .val (.int lev)) :: ("node", .val t.d) :: lvR ((t, lev) :: S) out T)) :=
      Es.assignT (Ev.itemOwnLast hown (.neg .int)) (.cons .l (.cons .l .nil))
    have h2 : Es C n (fs 5) (("level", .val (.int lev)) :: ("node", .val t.d) :: lvR ((t, lev) :: S) out T) ((forB (stAt 5 2))[1]?.getD (.Pass ⟨0, 0, 0, 0⟩)) (.next (("stack", .own (S.reverse.map sd)) :: ("level", .val (.int lev)) :: ("node", .val t.d) :: lvR ((t, lev) :: S) out T)) :=
      Es.delLast hown (.neg .int) (by rw [sizeLine_eq]; simp; have := t.sz_pos; omega)
    cases t with
    | leaf w s =>
      have ih := lv_loop G T k S (out ++ [pd (s, lev)]) (by simp [Tr.sz] at h; omega) (by simp; omega)
      refine WhB.step htest (ρ₁ := lvR S (out ++ [pd (s, lev)]) T) ?_ (by simpa [Tr.lv, List.flatMap_cons] using ih)
      refine Ex.post (ρ₁ := ("out", .own (out ++ [pd (s, lev)])) :: ("stack", .own (S.reverse.map sd)) :: ("level", .val (.int lev)) :: ("node", .val (Tr.leaf w s).d) :: lvR ((.leaf w s, lev) :: S) out T) ?_ (Sub.cons rfl (Sub.cons rfl (Sub.cons rfl Sub.nil)))
      refine Ex.cons h1 (Ex.cons h2 ?_)
      refine Ex.cons (Es.iff (b := true) ((Tt.cmp (.bcall G.len (.lenT (by simp)) (.one (.name rfl))) .int Bin.eqI).cast (by rfl)) ?_) Ex.nil
      exact Ex.cons (Es.append rfl (.tuple (.two (.atT (.name rfl) .int) (.name rfl))) (by intro _ _ q; cases q) (by rw [sizeLine_eq]; omega)) Ex.nil
    | node w m l r =>
      simp only [Tr.sz] at h
      have ih := lv_loop G T k ((l, lev + 1) :: (r, lev + 1) :: S) out (by simp only [szs]; omega) (by omega)
      refine WhB.step htest (ρ₁ := lvR ((l, lev + 1) :: (r, lev + 1) :: S) out T) ?_ (by simpa [Tr.lv, List.flatMap_cons] using ih)
      refine Ex.post (ρ₁ := ("stack", .own (S.reverse.map sd ++ [sd (r, lev + 1)] ++ [sd (l, lev + 1)])) :: ("stack", .own (S.reverse.map sd ++ [sd (r, lev + 1)])) :: ("stack", .own (S.reverse.map sd)) :: ("level", .val (.int lev)) :: ("node", .val (Tr.node w m l r).d) :: lvR ((.node w m l r, lev) :: S) out T) ?_ (Sub.cons (by show some (PV.own _) = some (PV.own _); simp) (Sub.cons rfl (Sub.cons rfl Sub.nil)))
      refine Ex.cons h1 (Ex.cons h2 ?_)
      refine Ex.cons (Es.iff (b := false) ((Tt.cmp (.bcall G.len (.lenT (by simp)) (.one (.name rfl))) .int Bin.eqI).cast (by rfl)) ?_) Ex.nil
      refine Ex.cons (Es.append rfl (.tuple (.two (.atT (.name rfl) .int) (.bin (.name rfl) .int .add))) (by intro _ _ q; cases q) (by rw [sizeLine_eq]; simp; omega)) ?_
      exact Ex.cons (Es.append rfl (.tuple (.two (.atT (.name rfl) .int) (.bin (.name rfl) .int .add))) (by intro _ _ q; cases q) (by rw [sizeLine_eq]; simp; omega)) Ex.nil

theorem levels_fn (G : Gs C) (t : Tr) (ht : t.sz ≤ 100000) : Fn C (n + 1) "leaf_levels" [t.d] (.list ((t.lv 0).map pd)) := by
  refine G.fnOf 5 ?_
  refine Ex.cons (Es.assignN (.list .nil) (.inl rfl)) (Ex.cons (Es.assignN (.list (.one (.tuple (.two (.name rfl) .int)))) (.inl rfl)) ?_)
  have := lv_loop (n := n) G t.d t.sz [(t, 0)] [] (by simp [szs]) (by simp; omega)
  have h' : WhB C n (fs 5) (whT (stAt 5 2)) (forB (stAt 5 2)) (("stack", .own [.tuple [t.d, .int 0]]) :: ("out", .own []) :: params (fp 5) [t.d]) (lvR [] ((t.lv 0).map pd) t.d) := by
    have h2 : WhB C n (fs 5) (whT (stAt 5 2)) (forB (stAt 5 2)) (lvR [(t, 0)] [] t.d) (lvR [] ((t.lv 0).map pd) t.d) := by simpa using this
    exact h2
  refine Ex.cons (Es.while h') ?_
  exact Ex.frz (x := "out") rfl (Ex.ret (Es.ret (.name rfl)))
end
end Sq
end

section
set_option autoImplicit false
set_option linter.unusedVariables false
open PySem PyProof.Rows
namespace Sq

def setAll (acc : List Int) (ps : List (Int × Int)) : List Int := ps.foldl (fun a p => a.set p.1.toNat p.2) acc
def lensOf (z : List Int) : List Tr → List Int
  | [] => z
  | .leaf _ s :: _ => z.set s.toNat 1
  | t :: _ => setAll z (t.lv 0)
def codeLens (fr : List Int) : List Int := lensOf (List.replicate fr.length 0) (huffF fr)

section
variable {C : Cx} {n : Nat}
theorem lens_loop (T S : PyData) : ∀ (ps : List (Int × Int)) (acc : List Int), acc.length ≤ 1000000 → (∀ p ∈ ps, 0 ≤ p.1 ∧ p.1 < acc.length) →
    ForB C n (fs 6) (forT (stAt 6 4)) (forB (stAt 6 4)) [("lengths", .own (nums acc)), ("tree", .val T), ("freq", .val S)] (ps.map pd) [("lengths", .own (nums (setAll acc ps))), ("tree", .val T), ("freq", .val S)]
  | [], acc, _, _ => .nil
  | p :: ps, acc, hl, h => by
    obtain ⟨h0, h1⟩ := h p (List.mem_cons_self ..)
    refine ForB.cons (ρ₂ := [("lengths", .own (nums (acc.set p.1.toNat p.2))), ("tree", .val T), ("freq", .val S)]) (As.tuple (.cons .l (.cons .l .nil))) ?_ (lens_loop T S ps (acc.set p.1.toNat p.2) (by simpa using hl) fun x hx => by simpa using h x (List.mem_cons_of_mem _ hx))
    refine Ex.post (ρ₁ := ("lengths", .own (nums (acc.set p.1.toNat p.2))) :: ("level", .val (.int p.2)) :: ("symbol", .val (.int p.1)) :: [("lengths", .own (nums acc)), ("tree", .val T), ("freq", .val S)]) ?_ (Sub.cons rfl (Sub.cons rfl (Sub.cons rfl Sub.nil)))
    rw [← nums_set]
    exact Ex.cons (Es.setItem rfl (.name rfl) (.name rfl) h0 (by rw [nums_length]; exact h1) (by omega)) Ex.nil
theorem lens_fn (G : Gs C) (fr : List Int) (hfr : fr.length ≤ 9000) (hok : ∀ t r, huffF fr = t :: r → t.sz ≤ 100000 ∧ ∀ p ∈ t.lv 0, 0 ≤ p.1 ∧ p.1 < fr.length) : Fn C (n + 4) "code_lengths" [.list (nums fr)] (.list (nums (codeLens fr))) := by
  refine G.fnOf 6 ?_
  refine Ex.cons (Es.assignN ((EvN.fill (EvN.list (.one .int)).ev (.bcall G.len (.lenL (by rw [nums_length]; omega)) (.one (.name rfl))) (by rw [nums_length]; omega)).cast (show _ = nums (List.replicate fr.length 0) by simp [nums])) (.inl rfl)) ?_
  refine Ex.cons (Es.assign (.fcall (huff_fn G fr hfr) (.one (.name rfl))) (.inl rfl)) ?_
  unfold codeLens
  cases hh : huffF fr with
  | nil =>
    refine Ex.ret (Es.iff (b := true) ((Tt.isNone (.name rfl)).cast (by rfl)) ?_)
    exact Ex.frz (x := "lengths") rfl (Ex.ret (Es.ret (.name rfl)))
  | cons t r =>
    obtain ⟨hsz, hin⟩ := hok t r hh
    cases t with
    | leaf w s =>
      obtain ⟨h0, h1⟩ := hin (s, 0) (by simp [Tr.lv])
      refine Ex.cons (Es.iff (b := false) ((Tt.isNone (.name rfl)).cast (by rfl)) Ex.nil) ?_
      refine Ex.ret (Es.iff (b := true) ((Tt.cmp (.bcall G.len (.lenT (by simp)) (.one (.name rfl))) .int Bin.eqI).cast (by rfl)) ?_)
      refine Ex.cons (Es.setItem rfl (.atT (.name rfl) .int) .int h0 (by rw [nums_length]; simpa using h1) (by omega)) ?_
      refine Ex.frz (x := "lengths") rfl (Ex.ret (Es.ret ((Ev.name rfl).cast ?_)))
      rw [nums_set]; rfl
    | node w m a b =>
      refine Ex.cons (Es.iff (b := false) ((Tt.isNone (.name rfl)).cast (by rfl)) Ex.nil) ?_
      refine Ex.cons (Es.iff (b := false) ((Tt.cmp (.bcall G.len (.lenT (by simp)) (.one (.name rfl))) .int Bin.eqI).cast (by rfl)) Ex.nil) ?_
      have hl := lens_loop (C := C) (n := n + 3) (Tr.node w m a b).d (.list (nums fr)) ((Tr.node w m a b).lv 0) (List.replicate fr.length 0) (by simp; omega) (by simpa using hin)
      refine Ex.weak (ρ' := [("lengths", .own (nums (List.replicate fr.length 0))), ("tree", .val (Tr.node w m a b).d), ("freq", .val (.list (nums fr)))]) ?_ (Sub.cons rfl (Sub.cons rfl (Sub.cons rfl Sub.nil)))
      refine Ex.cons (Es.for (.list (.fcall (levels_fn (n := n + 2) G _ hsz) (.one (.name rfl)))) hl) ?_
      exact Ex.frz (x := "lengths") rfl (Ex.ret (Es.ret (.name rfl)))
end

def can1 (ls : List Int) (m : Int) (st : List (Int × Int) × Int) (k : Nat) : List (Int × Int) × Int := if ls.getD k 0 = m then (st.1.set k (st.2, m), st.2 + 1) else st
def canN (ls : List Int) (st : List (Int × Int) × Int) (m : Int) : List (Int × Int) × Int := (List.range ls.length).foldl (can1 ls m) (st.1, st.2 * 2)
def canon (ls : List Int) (ms : List Int) : List (Int × Int) × Int := ms.foldl (canN ls) (List.replicate ls.length (0, 0), 0)
theorem can1_length (ls : List Int) (m : Int) (st : List (Int × Int) × Int) (k : Nat) : (can1 ls m st k).1.length = st.1.length := by
  unfold can1; split <;> simp
theorem canF_length (ls : List Int) (m : Int) : ∀ (ks : List Nat) (st : List (Int × Int) × Int), (ks.foldl (can1 ls m) st).1.length = st.1.length
  | [], st => rfl
  | k :: ks, st => by rw [List.foldl_cons, canF_length ls m ks, can1_length]
theorem canN_length (ls : List Int) (m : Int) (st : List (Int × Int) × Int) : (canN ls st m).1.length = st.1.length := canF_length ..

section
variable {C : Cx} {n : Nat}
abbrev canR (st : List (Int × Int) × Int) (ls : List Int) : PEnv := [("codes", .own (st.1.map pd)), ("value", .val (.int st.2)), ("lengths", .val (.list (nums ls)))]
def innerFor : Stmt := ((forB (stAt 7 2))[1]?).getD (.Pass ⟨0, 0, 0, 0⟩)
theorem can_inner (ls : List Int) (hls : ls.length ≤ 100000) (m : Int) : ∀ (ks : List Nat) (st : List (Int × Int) × Int), st.1.length = ls.length → (∀ k ∈ ks, k < ls.length) →
    ForB C n (fs 7) (forT innerFor) (forB innerFor) (("n", .val (.int m)) :: canR st ls) (ks.map fun i : Nat => .int i) (("n", .val (.int m)) :: canR (ks.foldl (can1 ls m) st) ls)
  | [], st, _, _ => .nil
  | k :: ks, st, hl, h => by
    have hk := h k (List.mem_cons_self ..)
    have hg : (nums ls)[((k : Nat) : Int).toNat]? = some (.int (ls.getD k 0)) := by rw [Int.toNat_natCast]; exact nums_get hk
    refine ForB.cons (ρ₂ := ("n", .val (.int m)) :: canR (can1 ls m st k) ls) (As.name .l) ?_ (can_inner ls hls m ks _ (by rw [can1_length]; exact hl) fun x hx => h x (List.mem_cons_of_mem _ hx))
    by_cases he : ls.getD k 0 = m
    · have e1 : can1 ls m st k = (st.1.set k (st.2, m), st.2 + 1) := if_pos he
      rw [e1]
      refine Ex.post (ρ₁ := ("value", .val (.int (st.2 + 1))) :: ("codes", .own ((st.1.map pd).set k (pd (st.2, m)))) :: ("symbol", .val (.int k)) :: ("n", .val (.int m)) :: canR st ls) ?_ (Sub.cons rfl (Sub.cons (by show some (PV.own _) = some (PV.own _); rw [List.map_set]) (Sub.cons rfl (Sub.cons rfl Sub.nil))))
      refine Ex.cons (Es.iff (b := true) ((Tt.cmp (.atL (.name rfl) (.name rfl) hg (by omega) (by omega)) (.name rfl) Bin.eqI).cast (by simpa using he)) ?_) Ex.nil
      refine Ex.cons (Es.setItem rfl (.name rfl) (.tuple (.two (.name rfl) (.name rfl))) (by omega) (by simp [hl]; omega) (by omega)) ?_
      exact Ex.cons (Es.assign (.bin (.name rfl) .int .add) (.inl rfl)) Ex.nil
    · have e1 : can1 ls m st k = st := if_neg he
      rw [e1]
      refine Ex.post (ρ₁ := ("symbol", .val (.int k)) :: ("n", .val (.int m)) :: canR st ls) ?_ (Sub.cons rfl (Sub.cons rfl (Sub.cons rfl (Sub.cons rfl Sub.nil))))
      exact Ex.cons (Es.iff (b := false) ((Tt.cmp (.atL (.name rfl) (.name rfl) hg (by omega) (by omega)) (.name rfl) Bin.eqI).cast (by simpa using he)) Ex.nil) Ex.nil
theorem can_outer (G : Gs C) (ls : List Int) (hls : ls.length ≤ 100000) : ∀ (ms : List Int) (st : List (Int × Int) × Int), st.1.length = ls.length →
    ForB C n (fs 7) (forT (stAt 7 2)) (forB (stAt 7 2)) (canR st ls) (nums ms) (canR (ms.foldl (canN ls) st) ls)
  | [], st, _ => .nil
  | m :: ms, st, hl => by
    refine ForB.cons (ρ₂ := canR (canN ls st m) ls) (As.name .l) ?_ (can_outer G ls hls ms _ (by rw [canN_length]; exact hl))
    refine Ex.post (ρ₁ := ("n", .val (.int m)) :: canR (canN ls st m) ls) ?_ (Sub.cons rfl (Sub.cons rfl (Sub.cons rfl Sub.nil)))
    refine Ex.cons (Es.assign (.mulS (.name rfl) .int (by decide)) (.inl rfl)) ?_
    refine Ex.weak (ρ' := ("n", .val (.int m)) :: canR (st.1, st.2 * 2) ls) ?_ (Sub.cons rfl (Sub.cons rfl (Sub.cons rfl (Sub.cons rfl Sub.nil))))
    refine Ex.cons (Es.for (ρ' := ("n", .val (.int m)) :: canR (canN ls st m) ls) (EvI.upto G (.bcall G.len (.lenL (by rw [nums_length]; omega)) (.one (.name rfl))) (by rw [nums_length]; omega)) ?_) Ex.nil
    rw [nums_length, Int.toNat_natCast]
    exact can_inner ls hls m (List.range ls.length) (st.1, st.2 * 2) hl (by simp)
theorem canon_fn (G : Gs C) (ls : List Int) (hls : ls.length ≤ 100000) (M : Nat) (hM : (M : Int) ∈ 0 :: ls) (hmax : ∀ j ∈ (0 : Int) :: ls, j ≤ M) (hM2 : M ≤ 100000) : Fn C (n + 1) "canonical_codes" [.list (nums ls)] (.list ((canon ls ((List.range M).map fun i : Nat => 1 + (i : Int))).1.map pd)) := by
  refine G.fnOf 7 ?_
  refine Ex.cons (Es.assignN ((EvN.fill (EvN.list (.one (.tuple (.two .int .int)))).ev (.bcall G.len (.lenL (by rw [nums_length]; omega)) (.one (.name rfl))) (by rw [nums_length]; omega)).cast (show _ = (List.replicate ls.length ((0 : Int), (0 : Int))).map pd by rw [nums_length]; simp [pd])) (.inl rfl)) ?_
  refine Ex.cons (Es.assign .int (.inl rfl)) ?_
  refine Ex.weak (ρ' := canR (List.replicate ls.length (0, 0), 0) ls) ?_ (Sub.cons rfl (Sub.cons rfl (Sub.cons rfl Sub.nil)))
  refine Ex.cons (Es.for (ρ' := canR (canon ls ((List.range M).map fun i : Nat => 1 + (i : Int))) ls) (EvI.range2 (a := 1) (b := M + 1) G.range rfl (.two .int (.bin (.bcall G.max (CallB.maxL (ns := 0 :: ls) hM hmax) (.one ((EvN.bin (EvN.list (.one .int)).ev (.name rfl) (BinN.cat (by rw [sizeLine_eq]; simp; omega))).ev.cast rfl))) .int .add)) (by decide) (by decide) (by omega) (by omega)) ?_) ?_
  · have := can_outer (C := C) (n := n) G ls hls ((List.range M).map fun i : Nat => 1 + (i : Int)) (List.replicate ls.length (0, 0), 0) (by simp)
    rw [rangeD_one, show ((M : Int) + 1 - 1).toNat = M by omega]
    have e : (List.range M).map (fun i : Nat => PyData.int (1 + (i : Int))) = nums ((List.range M).map fun i : Nat => 1 + (i : Int)) := by simp [nums]
    rw [e]; exact this
  · exact Ex.frz (x := "codes") rfl (Ex.ret (Es.ret (.name rfl)))
end
end Sq
end

section
set_option autoImplicit false
set_option linter.unusedVariables false
open PySem PyProof.Rows
namespace Sq

def bitsOf (v : Int) (w : Nat) : List Int := (List.range w).map fun k : Nat => v / 2 ^ (w - 1 - k) % 2
def valOf (bs : List Int) : Int := bs.foldl (fun v b => v * 2 + b) 0
def chunk (bs : List Int) (j : Nat) : List Int := (bs.take (8 * j + 8)).drop (8 * j)
def packB (bs : List Int) : List Int := (List.range ((bs.length + 7) / 8)).map fun j : Nat => valOf (chunk bs j) * 2 ^ (8 - (chunk bs j).length)
theorem bitsOf_length (v : Int) (w : Nat) : (bitsOf v w).length = w := by simp [bitsOf]
theorem bitsOf_01 (v : Int) (w : Nat) : ∀ b ∈ bitsOf v w, b = 0 ∨ b = 1 := by
  intro b hb
  simp only [bitsOf, List.mem_map] at hb
  obtain ⟨k, _, rfl⟩ := hb
  omega
theorem chunk_length (bs : List Int) (j : Nat) : (chunk bs j).length ≤ 8 := by simp [chunk]; omega

theorem range8 (L : Nat) : rangeD 0 (L : Int) 8 = (List.range ((L + 7) / 8)).map fun j : Nat => .int ((8 * j : Nat) : Int) := by
  unfold rangeD Builtin.Range.rangeSize
  have e : (if (8 : Int) > 0 then if (0 : Int) < (L : Int) then ((L : Int) - 0 - 1) / 8 + 1 else 0 else if (0 : Int) > (L : Int) then ((0 : Int) - L - 1) / (-8) + 1 else 0).toNat = (L + 7) / 8 := by
    rw [if_pos (by decide)]; split <;> omega
  rw [e]
  refine List.map_congr_left fun j _ => ?_
  congr 1; omega

section
variable {C : Cx} {n : Nat}
theorem bits_fn (G : Gs C) (v : Int) (w : Nat) (hw : w ≤ 30) : Fn C (n + 1) "bits_of" [.int v, .int w] (.list (nums (bitsOf v w))) := by
  refine G.fnOf 8 ?_
  refine Ex.ret (Es.ret (EvN.comp (rs := nums (bitsOf v w)) (EvI.upto G (.name rfl) (by omega)) (CompK.of [("value", .int v), ("width", .int w)] (by simp only [List.mem_cons, List.not_mem_nil, or_false, forall_eq_or_imp, forall_eq]; exact ⟨⟨rfl, rfl, rfl, rfl⟩, rfl, rfl, rfl, rfl⟩) rfl rfl rfl rfl) ?_ (by rw [sizeLine_eq]; simp; omega)).ev)
  rw [show nums (bitsOf v w) = (List.range w).map fun k : Nat => PyData.int (v / 2 ^ (w - 1 - k) % 2) by simp [bitsOf, nums]]
  refine CompB.each (f := fun k : Nat => .int k) rfl (List.range w) fun k hk => ?_
  have hk' := List.mem_range.mp hk
  refine (Ev.modN (.divN (.name rfl) (.pow2 .int (.bin (.bin (.name rfl) .int .sub) (.name rfl) .sub) (e := (w : Int) - 1 - k) (by omega) (by omega)) ?_ ?_) .int (by decide)).cast ?_
  · exact Int.pow_pos (by decide)
  · rw [Int.natAbs_pow]
    calc (2 : Int).natAbs ^ ((w : Int) - 1 - k).toNat ≤ 2 ^ 29 := Nat.pow_le_pow_right (by decide) (by omega)
      _ < _ := by decide
  · rw [show ((w : Int) - 1 - k).toNat = w - 1 - k by omega]

theorem val_loop (S : PyData) : ∀ (bs : List Int) (v : Int), ForB C n (fs 9) (forT (stAt 9 1)) (forB (stAt 9 1)) [("value", .val (.int v)), ("bits", .val S)] (nums bs) [("value", .val (.int (bs.foldl (fun v b => v * 2 + b) v))), ("bits", .val S)]
  | [], v => .nil
  | b :: bs, v => by
    refine ForB.cons (ρ₂ := [("value", .val (.int (v * 2 + b))), ("bits", .val S)]) (As.name .l) ?_ (val_loop S bs _)
    refine Ex.post (ρ₁ := ("value", .val (.int (v * 2 + b))) :: ("bit", .val (.int b)) :: [("value", .val (.int v)), ("bits", .val S)]) ?_ (Sub.cons rfl (Sub.cons rfl Sub.nil))
    exact Ex.cons (Es.assign (.bin (.mulS (.name rfl) .int (by decide)) (.name rfl) .add) (.inl rfl)) Ex.nil
theorem value_fn (G : Gs C) (bs : List Int) : Fn C (n + 1) "value_of" [.list (nums bs)] (.int (valOf bs)) := by
  refine G.fnOf 9 ?_
  refine Ex.cons (Es.assign .int (.inl rfl)) ?_
  refine Ex.cons (Es.for (.list (.name rfl)) (val_loop _ bs 0)) ?_
  exact Ex.ret (Es.ret (.name rfl))

theorem pack_loop (G : Gs C) (bs : List Int) (hb : bs.length ≤ 100000) : ∀ (js : List Nat) (out : List PyData), out.length + js.length ≤ 100000 → (∀ j ∈ js, j ≤ 100000) →
    ForB C (n + 1) (fs 10) (forT (stAt 10 1)) (forB (stAt 10 1)) [("data", .own out), ("bits", .val (.list (nums bs)))] (js.map fun j : Nat => .int ((8 * j : Nat) : Int)) [("data", .own (out ++ js.map fun j => .int (valOf (chunk bs j) * 2 ^ (8 - (chunk bs j).length)))), ("bits", .val (.list (nums bs)))]
  | [], out, _, _ => by simpa using ForB.nil
  | j :: js, out, h, hj => by
    simp only [List.length_cons] at h
    have hj0 := hj j (List.mem_cons_self ..)
    have hcl := chunk_length bs j
    have ih := pack_loop G bs hb js (out ++ [.int (valOf (chunk bs j) * 2 ^ (8 - (chunk bs j).length))]) (by simp; omega) fun x hx => hj x (List.mem_cons_of_mem _ hx)
    rw [List.append_assoc] at ih
    refine ForB.cons (ρ₂ := [("data", .own (out ++ [.int (valOf (chunk bs j) * 2 ^ (8 - (chunk bs j).length))])), ("bits", .val (.list (nums bs)))]) (As.name .l) ?_ ih
    refine Ex.post (ρ₁ := ("data", .own (out ++ [.int (valOf (chunk bs j) * 2 ^ (8 - (chunk bs j).length))])) :: ("chunk", .val (.list (nums (chunk bs j)))) :: ("start", .val (.int ((8 * j : Nat) : Int))) :: [("data", .own out), ("bits", .val (.list (nums bs)))]) ?_ (Sub.cons rfl (Sub.cons rfl Sub.nil))
    refine Ex.cons (Es.assign ((EvN.slice (.name rfl) (.some (.name rfl)) (.some (.bin (.name rfl) .int .add)) (by rw [sizeLine_eq, nums_length]; omega)).ev.cast (d' := .list (nums (chunk bs j))) ?_) (.inl rfl)) ?_
    · rw [show ((8 * j : Nat) : Int) + 8 = ((8 * j + 8 : Nat) : Int) by omega, sliceD_both]
      simp [chunk, nums, List.map_drop, List.map_take]
    · refine Ex.cons (Es.append rfl ((Ev.mulS (.fcall (value_fn G _) (.one (.name rfl))) (.pow2 .int (.bin .int (.bcall G.len (.lenL (by rw [nums_length]; omega)) (.one (.name rfl))) .sub) (by rw [nums_length]; omega) (by rw [nums_length]; omega)) ?_).cast (d' := .int (valOf (chunk bs j) * 2 ^ (8 - (chunk bs j).length))) ?_) (by intro _ _ q; cases q) (by rw [sizeLine_eq]; omega)) Ex.nil
      · rw [nums_length, show (8 - ((chunk bs j).length : Int)).toNat = 8 - (chunk bs j).length by omega]
        have h1 : (2 : Int) ^ (8 - (chunk bs j).length) ≤ 2 ^ 8 := (show ∀ e : Nat, e < 9 → (2 : Int) ^ e ≤ 2 ^ 8 by decide) _ (by omega)
        have h2 : (0 : Int) < 2 ^ (8 - (chunk bs j).length) := Int.pow_pos (by decide)
        constructor
        · omega
        · have : (2 : Int) ^ 8 < 2 ^ 64 := by decide
          omega
      · rw [nums_length, show (8 - ((chunk bs j).length : Int)).toNat = 8 - (chunk bs j).length by omega]
theorem pack_fn (G : Gs C) (bs : List Int) (hb : bs.length ≤ 100000) : Fn C (n + 2) "pack_bits" [.list (nums bs)] (.list (nums (packB bs))) := by
  refine G.fnOf 10 ?_
  refine Ex.cons (Es.assignN (.list .nil) (.inl rfl)) ?_
  refine Ex.cons (Es.for (ρ' := [("data", .own (nums (packB bs))), ("bits", .val (.list (nums bs)))]) (EvI.range3 (a := 0) (b := bs.length) (c := 8) G.range rfl (.three .int ((Ev.bcall G.len (.lenL (by rw [nums_length]; omega)) (.one (.name rfl))).cast (by rw [nums_length])) .int) (by decide) (by decide) (by omega) (by omega) (by decide) (by decide)) ?_) ?_
  · rw [range8]
    have := pack_loop (C := C) (n := n) G bs hb (List.range ((bs.length + 7) / 8)) [] (by simp; omega) (by intro j hj; have := List.mem_range.mp hj; omega)
    have e : nums (packB bs) = (List.range ((bs.length + 7) / 8)).map fun j => PyData.int (valOf (chunk bs j) * 2 ^ (8 - (chunk bs j).length)) := by simp [packB, nums]
    rw [e]; rw [List.nil_append] at this; exact this
  · exact Ex.frz (x := "data") rfl (Ex.ret (Es.ret (.name rfl)))

def codeAt (cs : List (Int × Int)) (s : Int) : Int × Int := cs.getD s.toNat (0, 0)
def enc (cs : List (Int × Int)) (ss : List Int) : List Int := ss.flatMap fun s => bitsOf (codeAt cs s).1 (codeAt cs s).2.toNat
def encFor : Stmt := ((forB (stAt 11 1))[2]?).getD (.Pass ⟨0, 0, 0, 0⟩)
theorem enc_inner (R : PEnv) (hR : R.lookup ("bits" : Str) = none) (hR2 : R.lookup ("bit" : Str) = none) : ∀ (bs : List Int) (out : List PyData), out.length + bs.length ≤ 1000000 → ForB C n (fs 11) (forT encFor) (forB encFor) (("bits", .own out) :: R) (nums bs) (("bits", .own (out ++ nums bs)) :: R)
  | [], out, _ => by simpa [nums] using ForB.nil
  | b :: bs, out, h => by
    simp only [List.length_cons] at h
    have ih := enc_inner R hR hR2 bs (out ++ [.int b]) (by simp; omega)
    rw [List.append_assoc] at ih
    refine ForB.cons (ρ₂ := ("bits", .own (out ++ [.int b])) :: R) (As.name .l) ?_ ih
    refine Ex.post (ρ₁ := ("bits", .own (out ++ [.int b])) :: ("bit", .val (.int b)) :: ("bits", .own out) :: R) ?_ ?_
    · exact Ex.cons (Es.append rfl (.name rfl) (by intro _ _ q; cases q) (by rw [sizeLine_eq]; omega)) Ex.nil
    · intro x pv e
      rw [List.lookup_cons] at e ⊢
      cases q : x == ("bits" : Str) with
      | true => rw [q] at e; exact e
      | false =>
        rw [q] at e
        rw [List.lookup_cons]
        cases q2 : x == ("bit" : Str) with
        | true => rw [eq_of_beq q2, hR2] at e; cases e
        | false => rw [List.lookup_cons, q]; exact e

abbrev encR (out : List PyData) (ss : List Int) (cs : List (Int × Int)) : PEnv := [("bits", .own out), ("symbols", .val (.list (nums ss))), ("codes", .val (.list (cs.map pd)))]
structure EncOk (cs : List (Int × Int)) (s : Int) : Prop where
  lo : 0 ≤ s
  hi : s < cs.length
  w0 : 0 ≤ (codeAt cs s).2
  w1 : (codeAt cs s).2 ≤ 30
theorem codes_get {cs : List (Int × Int)} {s : Int} (h0 : 0 ≤ s) (h : s < cs.length) : (cs.map pd)[s.toNat]? = some (pd (codeAt cs s)) := by
  have : s.toNat < cs.length := by omega
  simp [codeAt, List.getElem?_eq_getElem this]

theorem enc_body (G : Gs C) (S : List Int) (cs : List (Int × Int)) (hcs : cs.length ≤ 100000) (s : Int) (out : List PyData) (h : EncOk cs s) (hne : (codeAt cs s).2 ≠ 0) (ho : out.length ≤ 100000) :
    Ex C (n + 1) (fs 11) (("symbol", .val (.int s)) :: encR out S cs) (forB (stAt 11 1)) (.next (encR (out ++ nums (bitsOf (codeAt cs s).1 (codeAt cs s).2.toNat)) S cs)) := by
  have hw : (codeAt cs s).2 = ((codeAt cs s).2.toNat : Int) := by have := h.w0; omega
  refine Ex.cons (Es.assignT (.atL (.name rfl) (.name rfl) (codes_get h.lo h.hi) h.lo (by have := h.hi; omega)) (.cons .l (.cons .l .nil))) ?_
  refine Ex.cons (Es.iff (b := false) ((Tt.cmp (.name rfl) .int Bin.eqI).cast (by simpa using hne)) Ex.nil) ?_
  refine Ex.weak (ρ' := ("bits", .own out) :: [("value", .val (.int (codeAt cs s).1)), ("length", .val (.int (codeAt cs s).2)), ("symbols", .val (.list (nums S))), ("codes", .val (.list (cs.map pd)))]) ?_ (Sub.cons rfl (Sub.cons rfl (Sub.cons rfl (Sub.cons rfl (Sub.cons rfl Sub.nil)))))
  refine Ex.post (ρ₁ := ("bits", .own (out ++ nums (bitsOf (codeAt cs s).1 (codeAt cs s).2.toNat))) :: [("value", .val (.int (codeAt cs s).1)), ("length", .val (.int (codeAt cs s).2)), ("symbols", .val (.list (nums S))), ("codes", .val (.list (cs.map pd)))]) ?_ (Sub.cons rfl (Sub.cons rfl (Sub.cons rfl Sub.nil)))
  refine Ex.cons (Es.for (.list (.fcall (bits_fn G (codeAt cs s).1 (codeAt cs s).2.toNat (by have := h.w1; omega)) (.two (.name rfl) ((Ev.name rfl).cast (by rw [← hw]))))) (enc_inner _ rfl rfl _ out (by rw [bitsOf_length]; have := h.w1; omega))) Ex.nil

theorem enc_loop (G : Gs C) (S : List Int) (cs : List (Int × Int)) (hcs : cs.length ≤ 100000) : ∀ (ss : List Int) (out : List PyData), out.length + 30 * ss.length ≤ 90000 → (∀ s ∈ ss, EncOk cs s ∧ (codeAt cs s).2 ≠ 0) →
    ForB C (n + 1) (fs 11) (forT (stAt 11 1)) (forB (stAt 11 1)) (encR out S cs) (nums ss) (encR (out ++ nums (enc cs ss)) S cs)
  | [], out, _, _ => by simpa [enc, nums] using ForB.nil
  | s :: ss, out, h, hs => by
    simp only [List.length_cons] at h
    obtain ⟨h1, h2⟩ := hs s (List.mem_cons_self ..)
    have ih := enc_loop G S cs hcs ss (out ++ nums (bitsOf (codeAt cs s).1 (codeAt cs s).2.toNat)) (by rw [List.length_append, nums_length, bitsOf_length]; have := h1.w1; omega) fun x hx => hs x (List.mem_cons_of_mem _ hx)
    rw [List.append_assoc] at ih
    have e : nums (enc cs (s :: ss)) = nums (bitsOf (codeAt cs s).1 (codeAt cs s).2.toNat) ++ nums (enc cs ss) := by simp [enc, nums]
    rw [e]
    exact ForB.cons (As.name .l) (enc_body G S cs hcs s out h1 h2 (by omega)) ih
theorem encode_fn (G : Gs C) (ss : List Int) (cs : List (Int × Int)) (hcs : cs.length ≤ 100000) (hl : ss.length ≤ 1000) (hs : ∀ s ∈ ss, EncOk cs s ∧ (codeAt cs s).2 ≠ 0) : Fn C (n + 2) "encode_symbols" [.list (nums ss), .list (cs.map pd)] (.list (nums (enc cs ss))) := by
  refine G.fnOf 11 ?_
  refine Ex.cons (Es.assignN (.list .nil) (.inl rfl)) ?_
  refine Ex.cons (Es.for (.list (.name rfl)) (enc_loop G ss cs hcs ss [] (by simp; omega) hs)) ?_
  exact Ex.frz (x := "bits") rfl (Ex.ret (Es.ret (.name rfl)))

theorem enc_raise (G : Gs C) (S : List Int) (cs : List (Int × Int)) (hcs : cs.length ≤ 100000) : ∀ (ss : List Int) (out : List PyData), out.length + 30 * ss.length ≤ 90000 → (∀ s ∈ ss, EncOk cs s) → (∃ s ∈ ss, (codeAt cs s).2 = 0) →
    ForR C (n + 1) (fs 11) "ValueError" (forT (stAt 11 1)) (forB (stAt 11 1)) (encR out S cs) (nums ss)
  | [], out, _, _, h => by obtain ⟨s, hs, _⟩ := h; cases hs
  | s :: ss, out, h, hs, hz => by
    simp only [List.length_cons] at h
    have h1 := hs s (List.mem_cons_self ..)
    by_cases h2 : (codeAt cs s).2 = 0
    · refine ForR.here (As.name .l) ?_
      refine Rz.cons (Es.assignT (.atL (.name rfl) (.name rfl) (codes_get h1.lo h1.hi) h1.lo (by have := h1.hi; omega)) (.cons .l (.cons .l .nil))) ?_
      refine Rz.head (RzS.iff (b := true) ((Tt.cmp (.name rfl) .int Bin.eqI).cast (by simpa using h2)) ?_)
      exact Rz.head (RzS.raise G.verr rfl)
    · refine ForR.later (As.name .l) (enc_body G S cs hcs s out h1 h2 (by omega)) (enc_raise G S cs hcs ss _ (by rw [List.length_append, nums_length, bitsOf_length]; have := h1.w1; omega) (fun x hx => hs x (List.mem_cons_of_mem _ hx)) ?_)
      obtain ⟨x, hx, hx2⟩ := hz
      rcases List.mem_cons.mp hx with rfl | hx
      · exact absurd hx2 h2
      · exact ⟨x, hx, hx2⟩
theorem encode_raises (G : Gs C) (ss : List Int) (cs : List (Int × Int)) (hcs : cs.length ≤ 100000) (hl : ss.length ≤ 1000) (hs : ∀ s ∈ ss, EncOk cs s) (hz : ∃ s ∈ ss, (codeAt cs s).2 = 0) : Rz C (n + 1) (fs 11) (params (fp 11) [.list (nums ss), .list (cs.map pd)]) "ValueError" (fb 11) := by
  refine Rz.cons (Es.assignN (.list .nil) (.inl rfl)) ?_
  exact Rz.head (RzS.for (.list (.name rfl)) (enc_raise G ss cs hcs ss [] (by simp; omega) hs hz))
end
end Sq
end

section
set_option autoImplicit false
set_option linter.unusedVariables false
open PySem PyProof.Rows
namespace Sq

structure Tok3 where
  k : Int
  v : Int
  l : Int
def td (t : Tok3) : PyData := .tuple [.int t.k, .int t.v, .int t.l]
def spell (t : Tok3) : List Int := if t.k = 0 then [t.v] else [256, t.v / 256, t.v % 256, t.l]
theorem spell_length (t : Tok3) : (spell t).length ≤ 4 := by unfold spell; split <;> simp

section
variable {C : Cx} {n : Nat}
abbrev tsR (out : List PyData) (T : PyData) : PEnv := [("symbols", .own out), ("tokens", .val T)]
theorem ts_loop (T : PyData) : ∀ (ts : List Tok3) (out : List PyData), out.length + 4 * ts.length ≤ 100000 → ForB C n (fs 12) (forT (stAt 12 1)) (forB (stAt 12 1)) (tsR out T) (ts.map td) (tsR (out ++ nums (ts.flatMap spell)) T)
  | [], out, _ => by simpa [nums] using ForB.nil
  | t :: ts, out, h => by
    simp only [List.length_cons] at h
    have ih := ts_loop T ts (out ++ nums (spell t)) (by rw [List.length_append, nums_length]; have := spell_length t; omega)
    have e : nums ((t :: ts).flatMap spell) = nums (spell t) ++ nums (ts.flatMap spell) := by simp [nums, List.flatMap_cons]
    rw [List.append_assoc] at ih
    rw [e]
    refine ForB.cons (ρ₂ := tsR (out ++ nums (spell t)) T) (As.tuple (.cons .l (.cons .l (.cons .l .nil)))) ?_ ih
    by_cases hk : t.k = 0
    · have e1 : spell t = [t.v] := if_pos hk
      rw [e1]
      refine Ex.post (ρ₁ := ("symbols", .own (out ++ [.int t.v])) :: ("length", .val (.int t.l)) :: ("value", .val (.int t.v)) :: ("kind", .val (.int t.k)) :: tsR out T) ?_ (Sub.cons rfl (Sub.cons rfl Sub.nil))
      refine Ex.cons (Es.iff (b := true) ((Tt.cmp (.name rfl) .int Bin.eqI).cast (by simpa using hk)) ?_) Ex.nil
      exact Ex.cons (Es.append rfl (.name rfl) (by intro _ _ q; cases q) (by rw [sizeLine_eq]; omega)) Ex.nil
    · have e1 : spell t = [256, t.v / 256, t.v % 256, t.l] := if_neg hk
      rw [e1]
      refine Ex.post (ρ₁ := ("symbols", .own (out ++ [.int 256] ++ [.int (t.v / 256)] ++ [.int (t.v % 256)] ++ [.int t.l])) :: ("symbols", .own (out ++ [.int 256] ++ [.int (t.v / 256)] ++ [.int (t.v % 256)])) :: ("symbols", .own (out ++ [.int 256] ++ [.int (t.v / 256)])) :: ("symbols", .own (out ++ [.int 256])) :: ("length", .val (.int t.l)) :: ("value", .val (.int t.v)) :: ("kind", .val (.int t.k)) :: tsR out T) ?_ (Sub.cons (by show some (PV.own _) = some (PV.own _); simp [nums]) (Sub.cons rfl Sub.nil))
      refine Ex.cons (Es.iff (b := false) ((Tt.cmp (.name rfl) .int Bin.eqI).cast (by simpa using hk)) ?_) Ex.nil
      refine Ex.cons (Es.append rfl .int (by intro _ _ q; cases q) (by rw [sizeLine_eq]; omega)) ?_
      refine Ex.cons (Es.append rfl (.divN (.name rfl) .int (by decide) (by decide)) (by intro _ _ q; cases q) (by rw [sizeLine_eq]; simp; omega)) ?_
      refine Ex.cons (Es.append rfl (.modN (.name rfl) .int (by decide)) (by intro _ _ q; cases q) (by rw [sizeLine_eq]; simp; omega)) ?_
      exact Ex.cons (Es.append rfl (.name rfl) (by intro _ _ q; cases q) (by rw [sizeLine_eq]; simp; omega)) Ex.nil
theorem toks_fn (G : Gs C) (ts : List Tok3) (h : ts.length ≤ 1000) : Fn C (n + 1) "tokens_to_symbols" [.list (ts.map td)] (.list (nums (ts.flatMap spell))) := by
  refine G.fnOf 12 ?_
  refine Ex.cons (Es.assignN (.list .nil) (.inl rfl)) ?_
  refine Ex.cons (Es.for (.list (.name rfl)) (ts_loop _ ts [] (by simp; omega))) ?_
  exact Ex.frz (x := "symbols") rfl (Ex.ret (Es.ret (.name rfl)))

def four (x : Int) : List Int := [x / 16777216, x / 65536 % 256, x / 256 % 256, x % 256]
theorem four_fn (G : Gs C) (x : Int) : Fn C (n + 1) "four_bytes" [.int x] (.list (nums (four x))) := by
  refine G.fnOf 13 ?_
  exact Ex.ret (Es.ret (EvN.list (.four (.divN (.name rfl) .int (by decide) (by decide)) (.modN (.divN (.name rfl) .int (by decide) (by decide)) .int (by decide)) (.modN (.divN (.name rfl) .int (by decide) (by decide)) .int (by decide)) (.modN (.name rfl) .int (by decide)))).ev)
def adl (st : Int × Int) (x : Int) : Int × Int := ((st.1 + x) % 65521, (st.2 + (st.1 + x) % 65521) % 65521)
def check (xs : List Int) : Int := (xs.foldl adl (1, 0)).2 * 65536 + (xs.foldl adl (1, 0)).1
theorem check_loop (T : PyData) : ∀ (xs : List Int) (a b : Int), ForB C n (fs 14) (forT (stAt 14 2)) (forB (stAt 14 2)) [("b", .val (.int b)), ("a", .val (.int a)), ("data", .val T)] (nums xs) [("b", .val (.int (xs.foldl adl (a, b)).2)), ("a", .val (.int (xs.foldl adl (a, b)).1)), ("data", .val T)]
  | [], a, b => .nil
  | x :: xs, a, b => by
    refine ForB.cons (ρ₂ := [("b", .val (.int (adl (a, b) x).2)), ("a", .val (.int (adl (a, b) x).1)), ("data", .val T)]) (As.name .l) ?_ (check_loop T xs _ _)
    refine Ex.post (ρ₁ := ("b", .val (.int (adl (a, b) x).2)) :: ("a", .val (.int (adl (a, b) x).1)) :: ("x", .val (.int x)) :: [("b", .val (.int b)), ("a", .val (.int a)), ("data", .val T)]) ?_ (Sub.cons rfl (Sub.cons rfl (Sub.cons rfl Sub.nil)))
    refine Ex.cons (Es.assign (.modN (.bin (.name rfl) (.name rfl) .add) .int (by decide)) (.inl rfl)) ?_
    exact Ex.cons (Es.assign (.modN (.bin (.name rfl) (.name rfl) .add) .int (by decide)) (.inl rfl)) Ex.nil
theorem check_fn (G : Gs C) (xs : List Int) : Fn C (n + 1) "checksum" [.list (nums xs)] (.int (check xs)) := by
  refine G.fnOf 14 ?_
  refine Ex.cons (Es.assign .int (.inl rfl)) (Ex.cons (Es.assign .int (.inl rfl)) ?_)
  refine Ex.cons (Es.for (.list (.name rfl)) (check_loop _ xs 1 0)) ?_
  exact Ex.ret (Es.ret (.bin (.mulS (.name rfl) .int (by decide)) (.name rfl) .add))
theorem four_length (x : Int) : (four x).length = 4 := rfl
theorem nums_append (a b : List Int) : nums a ++ nums b = nums (a ++ b) := by simp [nums]
def header (ls : List Int) (a b c : Int) : List Int := [83, 81] ++ four a ++ four b ++ four c ++ ls
theorem header_fn (G : Gs C) (ls : List Int) (a b c : Int) (hl : ls.length ≤ 100000) : Fn C (n + 2) "header_of" [.list (nums ls), .int a, .int b, .int c] (.list (nums (header ls a b c))) := by
  refine G.fnOf 15 ?_
  refine Ex.ret (Es.ret ((EvN.bin (EvN.bin (EvN.bin (EvN.bin (EvN.list (.two .int .int)).ev (.fcall (four_fn G a) (.one (.name rfl))) (BinN.cat ?_)).ev (.fcall (four_fn G b) (.one (.name rfl))) (BinN.cat ?_)).ev (.fcall (four_fn G c) (.one (.name rfl))) (BinN.cat ?_)).ev (.name rfl) (BinN.cat ?_)).ev.cast ?_))
  · rw [sizeLine_eq]; simp [nums, four]
  · rw [sizeLine_eq]; simp [nums, four]
  · rw [sizeLine_eq]; simp [nums, four]
  · rw [sizeLine_eq]; simp [nums, four]; omega
  · simp [nums, header]

def plainL8 : List Int := [0, 1, 2, 97, 98, 254, 255, 255]
def spans5 : List Int := [4, 5, 7, 255, 255]
def tokOf (how what : Int) (size : Nat) : Tok3 :=
  if size = 0 ∨ how % 12 < 7 then ⟨0, plainL8.getD (what % 8).toNat 0, 0⟩ else ⟨1, 1 + what % size, spans5.getD (how % 12 - 7).toNat 0⟩
theorem token_fn (G : Gs C) (how what : Int) (size : Nat) (hs : size ≤ 100000) : Fn C (n + 1) "_law_token" [.int how, .int what, .int size] (td (tokOf how what size)) := by
  refine G.fnOf 21 ?_
  have hm : 0 ≤ what % 8 ∧ what % 8 < 8 := by omega
  by_cases h0 : size = 0
  · refine Ex.ret (Es.iff (b := true) (Tt.boolOp (.orT ((Tt.cmp (.name rfl) .int Bin.eqI).cast (by simpa using h0)))) ?_)
    have e : tokOf how what size = ⟨0, plainL8.getD (what % 8).toNat 0, 0⟩ := if_pos (.inl h0)
    rw [e]
    exact Ex.ret (Es.ret (.tuple (.three .int (.atT (.glob G.plain) (.modN (.name rfl) .int (by decide)) (nums_get (acc := plainL8) (by show _ < 8; omega)) (by omega) (by omega)) .int)))
  · by_cases h1 : how % 12 < 7
    · refine Ex.ret (Es.iff (b := true) (Tt.boolOp (.orF ((Tt.cmp (.name rfl) .int Bin.eqI).cast (by simpa using h0)) (.orT ((Tt.cmp (.modN (.name rfl) .int (by decide)) .int Bin.lt).cast (by simpa using h1))))) ?_)
      have e : tokOf how what size = ⟨0, plainL8.getD (what % 8).toNat 0, 0⟩ := if_pos (.inr h1)
      rw [e]
      exact Ex.ret (Es.ret (.tuple (.three .int (.atT (.glob G.plain) (.modN (.name rfl) .int (by decide)) (nums_get (acc := plainL8) (by show _ < 8; omega)) (by omega) (by omega)) .int)))
    · refine Ex.cons (Es.iff (b := false) (Tt.boolOp (.orF ((Tt.cmp (.name rfl) .int Bin.eqI).cast (by simpa using h0)) (.orF ((Tt.cmp (.modN (.name rfl) .int (by decide)) .int Bin.lt).cast (by simpa using h1)) .orNil))) Ex.nil) ?_
      have e : tokOf how what size = ⟨1, 1 + what % size, spans5.getD (how % 12 - 7).toNat 0⟩ := if_neg (by omega)
      rw [e]
      exact Ex.ret (Es.ret (.tuple (.three .int (.bin .int (.modN (.name rfl) (.name rfl) (by omega)) .add) (.atT (.glob G.spans) (.bin (.modN (.name rfl) .int (by decide)) .int .sub) (nums_get (acc := spans5) (by show _ < 5; omega)) (by omega) (by omega)))))

def piece (t : Tok3) (text : List Int) : List Int :=
  if t.k = 0 then [t.v] else ((List.replicate ((t.l / t.v).toNat + 1) (text.drop (text.length - t.v.toNat))).flatten).take t.l.toNat
theorem piece_fn (G : Gs C) (t : Tok3) (text : List Int) (ht : text.length ≤ 10000) (hk : t.k ≠ 0 → 1 ≤ t.v ∧ t.v ≤ text.length ∧ 0 ≤ t.l ∧ t.l ≤ 255) : Fn C (n + 1) "_law_piece" [td t, .list (nums text)] (.list (nums (piece t text))) := by
  refine G.fnOf 22 ?_
  refine Ex.cons (Es.assignT (.name rfl) (.cons .l (.cons .l (.cons .l .nil)))) ?_
  by_cases h0 : t.k = 0
  · refine Ex.ret (Es.iff (b := true) ((Tt.cmp (.name rfl) .int Bin.eqI).cast (by simpa using h0)) ?_)
    have e : piece t text = [t.v] := if_pos h0
    rw [e]
    exact Ex.ret (Es.ret (EvN.list (.one (.name rfl))).ev)
  · obtain ⟨h1, h2, h3, h4⟩ := hk h0
    refine Ex.cons (Es.iff (b := false) ((Tt.cmp (.name rfl) .int Bin.eqI).cast (by simpa using h0)) Ex.nil) ?_
    have e : piece t text = ((List.replicate ((t.l / t.v).toNat + 1) (text.drop (text.length - t.v.toNat))).flatten).take t.l.toNat := if_neg h0
    rw [e]
    have hq : t.l / t.v ≤ 255 ∧ 0 ≤ t.l / t.v := ⟨Int.le_trans (Int.ediv_le_self _ h3) h4, Int.ediv_nonneg h3 (by omega)⟩
    refine Ex.cons (Es.assign ((EvN.slice (.name rfl) (.some (.bin (.bcall G.len (.lenL (by rw [nums_length]; omega)) (.one (.name rfl))) (.name rfl) .sub)) .none (by rw [sizeLine_eq, nums_length]; omega)).ev.cast (d' := .list (nums (text.drop (text.length - t.v.toNat)))) ?_) (.inl rfl)) ?_
    · rw [nums_length, show (text.length : Int) - t.v = ((text.length - t.v.toNat : Nat) : Int) by omega, sliceD_from]
      simp [nums, List.map_drop]
    · refine Ex.ret (Es.ret ((EvN.slice (EvN.bin (.name rfl) (.bin (.divN (.name rfl) (.name rfl) (by omega) (by omega)) .int .add) (BinN.rep (by omega) (by omega) ?_)).ev .none (.some (.name rfl)) ?_).ev.cast ?_))
      · rw [nums_length, List.length_drop]
        calc (text.length - (text.length - t.v.toNat)) * (t.l / t.v + 1).toNat ≤ 10000 * 256 := Nat.mul_le_mul (by omega) (by omega)
          _ ≤ 2 ^ 24 := by decide
      · have hfl : ∀ (k : Nat) (l : List PyData), (List.replicate k l).flatten.length = k * l.length := by
          intro k l; simp
        rw [hfl, nums_length, List.length_drop, sizeLine_eq]
        calc (t.l / t.v + 1).toNat * (text.length - (text.length - t.v.toNat)) ≤ 256 * 10000 := Nat.mul_le_mul (by omega) (by omega)
          _ ≤ 16777216 := by decide
      · rw [show t.l = ((t.l.toNat : Nat) : Int) by omega, sliceD_to]
        rw [show ((t.l.toNat : Nat) : Int) = t.l by omega, show (t.l / t.v + 1).toNat = (t.l / t.v).toNat + 1 by omega]
        simp [nums, List.map_take, List.map_flatten, List.map_replicate]

theorem spell_fn (G : Gs C) (t : Tok3) : Fn C (n + 1) "_law_spell" [td t] (.list (nums (spell t))) := by
  refine G.fnOf 23 ?_
  refine Ex.cons (Es.assignT (.name rfl) (.cons .l (.cons .l (.cons .l .nil)))) ?_
  by_cases h0 : t.k = 0
  · refine Ex.ret (Es.iff (b := true) ((Tt.cmp (.name rfl) .int Bin.eqI).cast (by simpa using h0)) ?_)
    have e : spell t = [t.v] := if_pos h0
    rw [e]
    exact Ex.ret (Es.ret (EvN.list (.one (.name rfl))).ev)
  · refine Ex.cons (Es.iff (b := false) ((Tt.cmp (.name rfl) .int Bin.eqI).cast (by simpa using h0)) Ex.nil) ?_
    have e : spell t = [256, t.v / 256, t.v % 256, t.l] := if_neg h0
    rw [e]
    refine Ex.cons (Es.assignT (Ev.bcall G.divmod (CallB.divmod2 (by decide) (PyProof.noPylong_small (by decide))) (.two (.name rfl) .int)) (.cons .l (.cons .l .nil))) ?_
    refine Ex.ret (Es.ret ((EvN.list (.four .int (.name rfl) (.name rfl) (.name rfl))).ev.cast ?_))
    rw [Int.fdiv_eq_ediv_of_nonneg _ (by decide), Int.fmod_eq_emod_of_nonneg _ (by decide)]; rfl
end
end Sq
end

section
set_option autoImplicit false
set_option linter.unusedVariables false
open PySem PyProof.Rows
namespace Sq

theorem lay_all {ds : List PyData} (h : ∀ d ∈ ds, PyData.canLay0 d = true) : PyData.canLayAll0 ds = true := by
  induction ds with
  | nil => simp [PyData.canLayAll0]
  | cons d ds ih => simp only [PyData.canLayAll0, Bool.and_eq_true]; exact ⟨h d (List.mem_cons_self ..), ih fun x hx => h x (List.mem_cons_of_mem _ hx)⟩
theorem depth_all {ds : List PyData} {k : Nat} (h : ∀ d ∈ ds, d.depth ≤ k) : PyData.depthAll ds ≤ k := by
  induction ds with
  | nil => simp [PyData.depthAll]
  | cons d ds ih => simp only [PyData.depthAll]; have := h d (List.mem_cons_self ..); have := ih fun x hx => h x (List.mem_cons_of_mem _ hx); omega
theorem lay_list {ds : List PyData} (h : ∀ d ∈ ds, PyData.canLay0 d = true) : PyData.canLay0 (.list ds) = true := by simp only [PyData.canLay0]; exact lay_all h
theorem lay_tuple {ds : List PyData} (h : ∀ d ∈ ds, PyData.canLay0 d = true) : PyData.canLay0 (.tuple ds) = true := by simp only [PyData.canLay0]; exact lay_all h
theorem depth_list {ds : List PyData} {k : Nat} (h : ∀ d ∈ ds, d.depth ≤ k) : (PyData.list ds).depth ≤ k + 1 := by simp only [PyData.depth]; have := depth_all h; omega
theorem depth_tuple {ds : List PyData} {k : Nat} (h : ∀ d ∈ ds, d.depth ≤ k) : (PyData.tuple ds).depth ≤ k + 1 := by simp only [PyData.depth]; have := depth_all h; omega
theorem lay_nums (ns : List Int) : PyData.canLay0 (.list (nums ns)) = true := lay_list fun d hd => by
  simp only [nums, List.mem_map] at hd; obtain ⟨i, _, rfl⟩ := hd; simp [PyData.canLay0]
theorem depth_nums (ns : List Int) : (PyData.list (nums ns)).depth ≤ 64 := Nat.le_trans (depth_list (k := 0) fun d hd => by
  simp only [nums, List.mem_map] at hd; obtain ⟨i, _, rfl⟩ := hd; simp [PyData.depth]) (by decide)
theorem lay_pd (p : Int × Int) : PyData.canLay0 (pd p) = true := lay_tuple fun d hd => by
  simp only [List.mem_cons, List.not_mem_nil, or_false] at hd
  rcases hd with rfl | rfl <;> simp [PyData.canLay0]
theorem depth_pd (p : Int × Int) : (pd p).depth ≤ 1 := depth_tuple (k := 0) fun d hd => by
  simp only [List.mem_cons, List.not_mem_nil, or_false] at hd
  rcases hd with rfl | rfl <;> simp [PyData.depth]
theorem lay_pds (ps : List (Int × Int)) : PyData.canLay0 (.list (ps.map pd)) = true := lay_list fun d hd => by
  obtain ⟨p, _, rfl⟩ := List.mem_map.mp hd; exact lay_pd p
theorem depth_pds (ps : List (Int × Int)) : (PyData.list (ps.map pd)).depth ≤ 64 := Nat.le_trans (depth_list (k := 1) fun d hd => by
  obtain ⟨p, _, rfl⟩ := List.mem_map.mp hd; exact depth_pd p) (by decide)
theorem lay_tds (ts : List Tok3) : PyData.canLay0 (.list (ts.map td)) = true := lay_list fun d hd => by
  obtain ⟨p, _, rfl⟩ := List.mem_map.mp hd
  refine lay_tuple fun d hd => ?_
  simp only [List.mem_cons, List.not_mem_nil, or_false] at hd
  rcases hd with rfl | rfl | rfl <;> simp [PyData.canLay0]
theorem depth_tds (ts : List Tok3) : (PyData.list (ts.map td)).depth ≤ 64 := Nat.le_trans (depth_list (k := 1) fun d hd => by
  obtain ⟨p, _, rfl⟩ := List.mem_map.mp hd
  refine depth_tuple (k := 0) fun d hd => ?_
  simp only [List.mem_cons, List.not_mem_nil, or_false] at hd
  rcases hd with rfl | rfl | rfl <;> simp [PyData.depth]) (by decide)
def Tr.ht : Tr → Nat
  | .leaf _ _ => 1
  | .node _ _ l r => max l.ht r.ht + 1
theorem lay_tr : ∀ t : Tr, PyData.canLay0 t.d = true
  | .leaf w s => lay_tuple fun d hd => by
    simp only [List.mem_cons, List.not_mem_nil, or_false] at hd
    rcases hd with rfl | rfl | rfl <;> simp [PyData.canLay0]
  | .node w m l r => lay_tuple fun d hd => by
    simp only [List.mem_cons, List.not_mem_nil, or_false] at hd
    rcases hd with rfl | rfl | rfl | rfl
    · simp [PyData.canLay0]
    · simp [PyData.canLay0]
    · exact lay_tr l
    · exact lay_tr r
theorem depth_tr : ∀ t : Tr, t.d.depth ≤ t.ht
  | .leaf w s => depth_tuple (k := 0) fun d hd => by
    simp only [List.mem_cons, List.not_mem_nil, or_false] at hd
    rcases hd with rfl | rfl | rfl <;> simp [PyData.depth]
  | .node w m l r => depth_tuple fun d hd => by
    simp only [List.mem_cons, List.not_mem_nil, or_false] at hd
    rcases hd with rfl | rfl | rfl | rfl
    · simp [PyData.depth]
    · simp [PyData.depth]
    · exact Nat.le_trans (depth_tr l) (Nat.le_max_left ..)
    · exact Nat.le_trans (depth_tr r) (Nat.le_max_right ..)

section
variable {C : Cx} {n : Nat}

theorem same_fn (G : Gs C) (ns : List Int) : Fn C (n + 1) "_law_same" [.list (nums ns), .list (nums ns)] (.bool true) := by
  obtain ⟨c, a, hC, hg, F, hcode⟩ := G.same
  obtain ⟨mg, mb, gl, htype, hint⟩ := G.glb
  refine ⟨a, hg, F.callee, CallB.fnE F rfl G.lim fun A K M X env s E ok O hcd I D => ?_⟩
  obtain ⟨o, fd, h1, h2, h3⟩ := hcd
  have hc' : env.code = .ref c := h3.trans (hcode o fd h1 h2)
  have s0 : Es C n (fs 24) (params (fp 24) [.list (nums ns), .list (nums ns)]) (stAt 24 0) (.next (params (fp 24) [.list (nums ns), .list (nums ns)])) :=
    Es.iff (b := false) (Tt.notT ((Tt.typeIs (.name rfl) (by intro _ _ q; cases q) G.type rfl G.list rfl).cast (by rfl))) Ex.nil
  have s2 : Ex C n (fs 24) (params (fp 24) [.list (nums ns), .list (nums ns)]) [stAt 24 2] (.ret (.bool true)) :=
    Ex.ret (Es.ret (Ev.cmp (.name rfl) (.name rfl) (Bin.eqD (lay_nums ns) (depth_nums ns))))
  refine wpAny_execs_cons (wpAny_mono (s0 A K M X env s E ok O I D) (fun f s' p => ?_) fun _ _ x => x)
  obtain ⟨K', M', l, I', D', rfl, O'⟩ := p
  refine wpAny_execs_cons (wpAny_If (wpAny_isTrue_Not (wpAny_isTrue_value (wpAny_mono (allInt (got := "got") (ns := ns) gl G.tab hC rfl G.all rfl htype hint rfl (by decide) (by decide) rfl rfl rfl rfl rfl (ok := ok) (R := O'.rdX X) (hcode := hc') (I := I')) (fun v s'' hv => ?_) fun _ _ x => x))))
  obtain ⟨rfl, I''⟩ := hv
  refine wpAny_truthy_bool ?_
  refine wpAny_execs_nil ?_
  exact wpAny_mono (s2 A K' M' X env s'' E ok O' I'' D') (fun _ _ p => p.up l) fun _ _ x => x
end
end Sq
end

section
set_option autoImplicit false
set_option linter.unusedVariables false
open PySem PyProof.Rows
namespace Sq

def TLt (a b : Tr) : Prop := a.lt b = true
theorem TLt.trans {a b c : Tr} (h : TLt a b) (h' : TLt b c) : TLt a c := by
  simp only [TLt, Tr.lt, decide_eq_true_eq] at h h' ⊢; omega
theorem TLt.tot {a b : Tr} (h : a.m ≠ b.m) (h' : ¬ TLt a b) : TLt b a := by
  simp only [TLt, Tr.lt, decide_eq_true_eq] at h' ⊢; omega
theorem ins_perm (t : Tr) : ∀ F : List Tr, (ins t F).Perm (t :: F)
  | [] => .refl _
  | o :: r => by
    unfold ins
    split
    · exact .refl _
    · exact ((ins_perm t r).cons o).trans (.swap ..)
theorem ins_sorted (t : Tr) : ∀ F : List Tr, F.Pairwise TLt → (∀ o ∈ F, t.m ≠ o.m) → (ins t F).Pairwise TLt
  | [], _, _ => List.pairwise_singleton ..
  | o :: r, h, hm => by
    obtain ⟨h1, h2⟩ := List.pairwise_cons.mp h
    unfold ins
    split
    · rename_i hl
      exact List.pairwise_cons.mpr ⟨fun x hx => by
        rcases List.mem_cons.mp hx with rfl | hx
        · exact hl
        · exact TLt.trans hl (h1 x hx), h⟩
    · rename_i hl
      refine List.pairwise_cons.mpr ⟨fun x hx => ?_, ins_sorted t r h2 fun x hx => hm x (List.mem_cons_of_mem _ hx)⟩
      rcases List.mem_cons.mp ((ins_perm t r).mem_iff.mp hx) with rfl | hx
      · exact TLt.tot (hm o (List.mem_cons_self ..)) hl
      · exact h1 x hx
structure Fok (F : List Tr) : Prop where
  sorted : F.Pairwise TLt
  nodup : (F.map Tr.m).Nodup
theorem Fok.ins {F : List Tr} (h : Fok F) {t : Tr} (ht : ∀ o ∈ F, t.m ≠ o.m) : Fok (ins t F) := by
  refine ⟨ins_sorted t F h.sorted ht, ?_⟩
  refine (((ins_perm t F).map Tr.m).nodup_iff).mpr (List.nodup_cons.mpr ⟨fun hm => ?_, h.nodup⟩)
  obtain ⟨o, ho, e⟩ := List.mem_map.mp hm
  exact ht o ho e.symm
theorem Fok.step {a b : Tr} {r : List Tr} (h : Fok (a :: b :: r)) : Fok r ∧ (∀ o ∈ r, (a.join b).m ≠ o.m) := by
  obtain ⟨_, h2⟩ := List.pairwise_cons.mp h.sorted
  obtain ⟨_, h3⟩ := List.pairwise_cons.mp h2
  have hn := h.nodup
  simp only [List.map_cons, List.nodup_cons, List.mem_cons, not_or] at hn
  obtain ⟨⟨_, n1⟩, n2, n3⟩ := hn
  refine ⟨⟨h3, n3⟩, fun o ho e => ?_⟩
  have hmem : o.m ∈ r.map Tr.m := List.mem_map_of_mem ho
  have : (a.join b).m = min a.m b.m := rfl
  rw [this] at e
  rcases Int.le_total a.m b.m with q | q
  · rw [Int.min_eq_left q] at e; exact n1 (e ▸ hmem)
  · rw [Int.min_eq_right q] at e; exact n2 (e ▸ hmem)
theorem Fok.stepF {F : List Tr} (h : Fok F) : Fok (stepF F) := by
  match F, h with
  | [], h => exact h
  | [a], h => exact h
  | a :: b :: r, h => exact (h.step.1).ins h.step.2
theorem forest0_ok (fr : List Int) : ∀ (ks : List Nat) (F : List Tr), Fok F → ks.Nodup → (∀ k ∈ ks, ∀ o ∈ F, o.m ≠ (k : Int)) → Fok (forest0 fr ks F)
  | [], F, h, _, _ => h
  | k :: ks, F, h, hn, hk => by
    obtain ⟨n1, n2⟩ := List.nodup_cons.mp hn
    refine forest0_ok fr ks (first1 fr F k) ?_ n2 ?_
    · unfold first1
      split
      · exact h.ins fun o ho e => hk k (List.mem_cons_self ..) o ho e.symm
      · exact h
    · intro j hj o ho
      unfold first1 at ho
      split at ho
      · rcases List.mem_cons.mp ((ins_perm _ _).mem_iff.mp ho) with rfl | ho
        · intro e
          have : k = j := by have e' : (k : Int) = (j : Int) := e; omega
          exact n1 (this ▸ hj)
        · exact hk j (List.mem_cons_of_mem _ hj) o ho
      · exact hk j (List.mem_cons_of_mem _ hj) o ho
theorem forest0_perm (fr : List Int) : ∀ (ks : List Nat) (F : List Tr), (forest0 fr ks F).Perm ((ks.filter fun k => decide (0 < fr.getD k 0)).map (fun k => .leaf (fr.getD k 0) k) ++ F)
  | [], F => .refl _
  | k :: ks, F => by
    have ih := forest0_perm fr ks (first1 fr F k)
    refine ih.trans ?_
    unfold first1
    by_cases h : 0 < fr.getD k 0
    · rw [if_pos h, List.filter_cons_of_pos (by simpa using h), List.map_cons, List.cons_append]
      exact ((ins_perm _ F).append_left _).trans (List.perm_middle)
    · rw [if_neg h, List.filter_cons_of_neg (by simpa using h)]
theorem forest_ok (fr : List Int) : Fok (forest0 fr (List.range fr.length) []) := forest0_ok fr _ _ ⟨.nil, List.nodup_nil⟩ List.nodup_range (fun _ _ _ h => by cases h)

namespace Tr
theorem lv_succ : ∀ (t : Tr) (d : Int), t.lv (d + 1) = (t.lv d).map fun p => (p.1, p.2 + 1)
  | leaf _ s, d => rfl
  | node _ _ l r, d => by simp [lv, lv_succ l (d + 1), lv_succ r (d + 1)]
end Tr
def gd (t : Tr) : PyData := .tuple [.int t.w, .int t.m, t.d, .list ((t.lv 0).map pd)]
theorem gd_key (t : Tr) : key2 (gd t) = some (t.w, t.m) := rfl
theorem gd_lt {a b : Tr} (h : TLt a b) : kLt (gd a) (gd b) := ⟨_, _, _, _, gd_key a, gd_key b, by simpa only [TLt, Tr.lt, decide_eq_true_eq] using h⟩
theorem gd_pair {F : List Tr} (h : Fok F) : (F.map gd).Pairwise kLt := List.pairwise_map.mpr (h.sorted.imp gd_lt)
theorem gd_nodup {F : List Tr} (h : (F.map Tr.m).Nodup) : ((F.map gd).map key2).Nodup := by
  rw [List.map_map]
  refine List.pairwise_map.mpr ((List.pairwise_map.mp h).imp fun {a b} hne e => hne ?_)
  simp only [Function.comp, gd_key, Option.some.injEq, Prod.mk.injEq] at e
  exact e.2
theorem gd_some {F : List Tr} : ∀ d ∈ F.map gd, (key2 d).isSome = true := fun d hd => by
  obtain ⟨t, _, rfl⟩ := List.mem_map.mp hd; rfl

section
variable {C : Cx} {n : Nat} {sc : Scope} {ρ : PEnv}
theorem sortG {F F' : List Tr} (hF : Fok F') (hp : F'.Perm F) (hl : F.length < 64) : CallN C n (.builtin "sorted") [.list (F.map gd)] (F'.map gd) :=
  CallN.sorted gd_some (gd_nodup ((hp.map Tr.m).nodup_iff.mp hF.nodup)) (by simpa using hl) (hp.map gd) (gd_pair hF)

def lvsum (F : List Tr) : Nat := (F.map fun t => (t.lv 0).length).sum
theorem lvsum_perm {F F' : List Tr} (h : F.Perm F') : lvsum F = lvsum F' := (h.map _).sum_nat
theorem lv_join (a b : Tr) : (a.join b).lv 0 = (a.lv 0 ++ b.lv 0).map fun p => (p.1, p.2 + 1) := by
  show a.lv (0 + 1) ++ b.lv (0 + 1) = _
  rw [Tr.lv_succ, Tr.lv_succ, List.map_append]
theorem gr_loop (G : Gs C) (S : PyData) : ∀ (ks : List Nat) (F : List Tr), ks.length + 1 ≤ F.length → F.length < 64 → Fok F → lvsum F ≤ 10000 →
    ForB C n (fs 25) (forT (stAt 25 1)) (forB (stAt 25 1)) [("groups", .val (.list (F.map gd))), ("counts", .val S)] (ks.map fun i : Nat => .int i) [("groups", .val (.list ((iterF ks.length F).map gd))), ("counts", .val S)]
  | [], F, _, _, _, _ => .nil
  | k :: ks, F, hl, h, hok, hlv => by
    simp only [List.length_cons] at hl
    match F, hl, h, hok, hlv with
    | a :: b :: r, hl, h, hok, hlv =>
      simp only [List.length_cons] at hl h
      have hls : (a.lv 0).length + (b.lv 0).length + lvsum r ≤ 10000 := by simp only [lvsum, List.map_cons, List.sum_cons] at hlv ⊢; omega
      have hp : (ins (a.join b) r).Perm (r ++ [a.join b]) := (ins_perm _ r).trans (List.perm_append_singleton _ _).symm
      have hlv2 : lvsum (ins (a.join b) r) ≤ 10000 := by
        rw [lvsum_perm (ins_perm (a.join b) r)]
        simp only [lvsum, List.map_cons, List.sum_cons, lv_join, List.length_map, List.length_append] at hls ⊢; omega
      refine ForB.cons (ρ₂ := [("groups", .val (.list ((ins (a.join b) r).map gd))), ("counts", .val S)]) (As.name .l) ?_ (gr_loop G S ks (ins (a.join b) r) (by rw [ins_length]; omega) (by rw [ins_length]; omega) (hok.stepF) hlv2)
      refine Ex.post (ρ₁ := ("groups", .val (.list ((ins (a.join b) r).map gd))) :: ("leaves", .val (.list (((a.join b).lv 0).map pd))) :: ("leaves", .own (((a.join b).lv 0).map pd)) :: ("least", .val (.int (min a.m b.m))) :: ("weight", .val (.int (a.w + b.w))) :: ("b", .val (gd b)) :: ("a", .val (gd a)) :: ("_", .val (.int k)) :: [("groups", .val (.list ((a :: b :: r).map gd))), ("counts", .val S)]) ?_ (Sub.cons rfl (Sub.cons rfl Sub.nil))
      refine Ex.cons (Es.assign (.atL (.name rfl) .int) (.inl rfl)) ?_
      refine Ex.cons (Es.assign (.atL (.name rfl) .int) (.inl rfl)) ?_
      refine Ex.cons (Es.assign (.bin (.atT (.name rfl) .int) (.atT (.name rfl) .int) .add) (.inl rfl)) ?_
      refine Ex.cons (Es.assign (.bcall G.min .min2 (.two (.atT (.name rfl) .int) (.atT (.name rfl) .int))) (.inl rfl)) ?_
      refine Ex.cons (Es.assignComp (rs := ((a.join b).lv 0).map pd) (.list ((EvN.bin (.atT (.name rfl) .int) (.atT (.name rfl) .int) (BinN.cat (by rw [sizeLine_eq]; simp; omega))).ev.cast (d' := .list ((a.lv 0 ++ b.lv 0).map pd)) (by simp))) (CompK.of [] (by simp) rfl rfl rfl rfl) ?_ (by rw [sizeLine_eq]; simp; omega) rfl (fun env he => by cases env; cases he; rfl)) ?_
      · rw [lv_join, List.map_map]
        exact CompB.each2 (u := fun p : Int × Int => .int p.1) (v := fun p => .int p.2) rfl rfl (a.lv 0 ++ b.lv 0) fun p _ => .tuple (.two (.name rfl) (.bin (.name rfl) .int .add))
      refine Ex.frz (x := "leaves") rfl ?_
      refine Ex.cons (Es.assign (EvN.call G.sorted rfl (.builtin _) (.one ((EvN.bin (EvN.slice (.name rfl) (.some .int) .none (by rw [sizeLine_eq]; simp; omega)).ev (EvN.list (.one (.tuple (.four (.name rfl) (.name rfl) (.tuple (.four (.name rfl) (.name rfl) (.atT (.name rfl) .int) (.atT (.name rfl) .int))) (.name rfl))))).ev (BinN.cat ?_)).ev.cast (d' := .list ((r ++ [a.join b]).map gd)) ?_)) (sortG (hok.stepF) hp (by simp; omega))).ev (.inl rfl)) Ex.nil
      · rw [show (some (2 : Int)) = some ((2 : Nat) : Int) from rfl, sliceD_from, sizeLine_eq]
        simp; omega
      · rw [show (some (2 : Int)) = some ((2 : Nat) : Int) from rfl, sliceD_from, List.map_append]
        rfl
end
end Sq
end

section
set_option autoImplicit false
set_option linter.unusedVariables false
open PySem PyProof.Rows
namespace Sq

theorem forest_lvsum (fr : List Int) : lvsum (forest0 fr (List.range fr.length) []) = (forest0 fr (List.range fr.length) []).length := by
  rw [lvsum_perm (forest0_perm fr _ _), (forest0_perm fr _ _).length_eq]
  simp only [lvsum, List.append_nil, List.map_map, List.length_map]
  have : ∀ l : List Nat, (l.map (Function.comp (fun t : Tr => (t.lv 0).length) fun k : Nat => Tr.leaf (fr.getD k 0) k)).sum = l.length := by
    intro l
    induction l with
    | nil => rfl
    | cons a l ih => simp only [List.map_cons, List.sum_cons, ih, List.length_cons]; show 1 + l.length = _; omega
  exact this _

section
variable {C : Cx} {n : Nat} {sc : Scope} {ρ : PEnv}
theorem groups_fn (G : Gs C) (fr : List Int) (hfr : fr.length ≤ 9000) (hF : (forest0 fr (List.range fr.length) []).length < 64) : Fn C (n + 1) "_law_groups" [.list (nums fr)] (.list ((huffF fr).map gd)) := by
  refine G.fnOf 25 ?_
  have hget : ∀ k ∈ List.range fr.length, (nums fr)[((k : Nat) : Int).toNat]? = some (.int (fr.getD k 0)) := fun k hk => by rw [Int.toNat_natCast]; exact nums_get (List.mem_range.mp hk)
  have hperm := forest0_perm fr (List.range fr.length) []
  rw [List.append_nil] at hperm
  refine Ex.cons (Es.assign (EvN.call G.sorted rfl (.builtin _) (.one ((EvN.comp (rs := (((List.range fr.length).filter fun k => decide (0 < fr.getD k 0)).map (fun k : Nat => Tr.leaf (fr.getD k 0) k)).map gd) (EvI.upto G (.bcall G.len (.lenL (by rw [nums_length]; omega)) (.one (.name rfl))) (by rw [nums_length]; omega)) (CompK.of [("counts", .list (nums fr))] (by simp only [List.mem_cons, List.not_mem_nil, or_false, forall_eq]; exact ⟨rfl, rfl, rfl, rfl⟩) rfl rfl rfl rfl) ?_ (by rw [sizeLine_eq, nums_length]; simp; omega)).ev)) (sortG (forest_ok fr) hperm (by rw [← hperm.length_eq]; exact hF))).ev (.inl rfl)) ?_
  · rw [List.map_map, nums_length, Int.toNat_natCast]
    refine CompB.eachIf (f := fun k : Nat => .int k) (p := fun k : Nat => decide (0 < fr.getD k 0)) rfl (List.range fr.length) (fun k hk => ?_) fun k hk _ => ?_
    · have := List.mem_range.mp hk
      exact Tt.cmp (.atL (.name rfl) (.name rfl) (hget k hk) (by omega) (by omega)) .int Bin.gt
    · have := List.mem_range.mp hk
      exact .tuple (.four (.atL (.name rfl) (.name rfl) (hget k hk) (by omega) (by omega)) (.name rfl) (.tuple (.three (.atL (.name rfl) (.name rfl) (hget k hk) (by omega) (by omega)) (.name rfl) (.name rfl))) (EvN.list (.one (.tuple (.two (.name rfl) .int)))).ev)
  refine Ex.weak (ρ' := [("groups", .val (.list ((forest0 fr (List.range fr.length) []).map gd))), ("counts", .val (.list (nums fr)))]) ?_ (Sub.cons rfl (Sub.cons rfl Sub.nil))
  have hlen : ((forest0 fr (List.range fr.length) []).map gd).length = (forest0 fr (List.range fr.length) []).length := by simp
  cases hh : forest0 fr (List.range fr.length) [] with
  | nil =>
    have e : huffF fr = [] := by unfold huffF; rw [hh]; rfl
    rw [e]
    refine Ex.cons (Es.for (EvI.upto G (.bin (.bcall G.len (.lenL (by simp)) (.one (.name rfl))) .int .sub) (by simp)) .nil) ?_
    exact Ex.ret (Es.ret (.name rfl))
  | cons t r =>
    rw [hh] at hF hlen
    have e : huffF fr = iterF (List.range r.length).length (t :: r) := by unfold huffF; rw [hh]; simp
    rw [e]
    simp only [List.length_cons] at hF
    have hok := forest_ok fr
    have hs := forest_lvsum fr
    rw [hh] at hok hs
    refine Ex.cons (Es.for (ρ' := [("groups", .val (.list ((iterF (List.range r.length).length (t :: r)).map gd))), ("counts", .val (.list (nums fr)))]) (EvI.upto G (.bin (.bcall G.len (.lenL (by rw [hlen]; simp; omega)) (.one (.name rfl))) .int .sub) (by rw [hlen]; simp; omega)) ?_) ?_
    · rw [show ((((t :: r).map gd).length : Int) - 1).toNat = r.length by simp]
      exact gr_loop G _ (List.range r.length) (t :: r) (by simp) (by simp; omega) hok (by rw [hs]; simp; omega)
    · exact Ex.ret (Es.ret (.name rfl))

theorem holds_fn (G : Gs C) (fr : List Int) (hfr : fr.length ≤ 9000) (hok : ∀ t r, huffF fr = t :: r → t.sz ≤ 100000 ∧ t.ht ≤ 64) : Fn C (n + 4) "_law_tree_holds" [.list (nums fr), .list ((huffF fr).map gd)] (.bool true) := by
  refine G.fnOf 26 ?_
  refine Ex.cons (Es.assign (EvN.call G.list rfl (.type _) (.one (.name rfl)) (CallN.listL (by rw [sizeLine_eq, nums_length]; omega))).ev (.inl rfl)) ?_
  refine Ex.cons (Es.assign (.fcall (huff_fn G fr hfr) (.one (.name rfl))) (.inl rfl)) ?_
  refine Ex.cons (Es.iff (b := false) (Tt.cmp (.name rfl) (.name rfl) (Bin.neD (lay_nums fr) (depth_nums fr))) Ex.nil) ?_
  cases hh : huffF fr with
  | nil =>
    refine Ex.ret (Es.iff (b := true) ((Tt.cmp (.bcall G.len (.lenL (by simp)) (.one (.name rfl))) .int Bin.eqI).cast (by rfl)) ?_)
    exact Ex.ret (Es.ret (.isNoneT (.name rfl)))
  | cons t r =>
    obtain ⟨h1, h2⟩ := hok t r hh
    have hr : r.length ≤ 9000 := by
      have hl : (huffF fr).length ≤ fr.length := by
        have h0 := forest0_length fr (List.range fr.length) []
        simp only [List.length_nil, Nat.zero_add, List.length_range] at h0
        have : ∀ (k : Nat) (f : List Tr), (iterF k f).length ≤ f.length := by
          intro k
          induction k with
          | zero => intro f; exact Nat.le_refl _
          | succ k ih =>
            intro f
            refine Nat.le_trans (ih _) ?_
            match f with
            | [] => exact Nat.le_refl _
            | [a] => exact Nat.le_refl _
            | a :: b :: r => simp [stepF, ins_length]
        exact Nat.le_trans (this _ _) h0
      rw [hh] at hl; simp at hl; omega
    refine Ex.cons (Es.iff (b := false) ((Tt.cmp (.bcall G.len (.lenL (by simp; omega)) (.one (.name rfl))) .int Bin.eqI).cast (by simp; omega)) Ex.nil) ?_
    refine Ex.cons (Es.iff (b := false) (Tt.notT ((Tt.typeIs (.name rfl) (by intro _ _ q; cases q) G.type rfl G.tuple rfl).cast (by show (tyOf t.d == "tuple") = true; rw [t.d_eq]; rfl))) Ex.nil) ?_
    refine Ex.cons (Es.iff (b := false) (Tt.cmp (.name rfl) (.atT (.atL (.name rfl) .int) .int) (Bin.neD (lay_tr t) (Nat.le_trans (depth_tr t) h2))) Ex.nil) ?_
    refine Ex.cons (Es.assign (.fcall (levels_fn (n := n + 2) G t h1) (.one (.name rfl))) (.inl rfl)) ?_
    refine Ex.cons (Es.iff (b := false) (Tt.notT ((Tt.typeIs (.name rfl) (by intro _ _ q; cases q) G.type rfl G.list rfl).cast (by rfl))) Ex.nil) ?_
    exact Ex.ret (Es.ret (Ev.cmp (.name rfl) (.atT (.atL (.name rfl) .int) .int) (Bin.eqD (lay_pds _) (depth_pds _))))

def lexB (p q : Int × Int) : Bool := decide (p.1 < q.1) || (decide (p.1 = q.1) && decide (p.2 < q.2))
def wval (ord : List (Int × Int)) (q : Int × Int) : Int := ((ord.filter fun p => lexB p q).map fun p => (2 : Int) ^ (q.1 - p.1).toNat).sum
def wordsOf (ord : List (Int × Int)) : List (Int × (Int × Int)) := ord.map fun q => (q.2, (wval ord q, q.1))
def wordsD (ws : List (Int × (Int × Int))) : PyData := dictD (ws.map fun p => (p.1, pd p.2))
def wd (p : Int × (Int × Int)) : PyData := pairD (p.1, pd p.2)

abbrev wR (out : List PyData) (ord : List (Int × Int)) (S : PyData) : PEnv := [("pairs", .own out), ("order", .val (.list (ord.map pd))), ("groups", .val S)]
theorem words_loop (G : Gs C) (S : PyData) (ord : List (Int × Int)) (hl : ord.length ≤ 1000) (hb : ∀ p ∈ ord, ∀ q ∈ ord, p.1 - q.1 ≤ 1000) : ∀ (qs : List (Int × Int)) (out : List PyData), (∀ q ∈ qs, q ∈ ord) → out.length + qs.length ≤ 100000 →
    ForB C n (fs 27) (forT (stAt 27 4)) (forB (stAt 27 4)) (wR out ord S) (qs.map pd) (wR (out ++ qs.map fun q => wd (q.2, (wval ord q, q.1))) ord S)
  | [], out, _, _ => by simpa using ForB.nil
  | q :: qs, out, hq, ho => by
    simp only [List.length_cons] at ho
    have hq0 := hq q (List.mem_cons_self ..)
    have ih := words_loop G S ord hl hb qs (out ++ [wd (q.2, (wval ord q, q.1))]) (fun x hx => hq x (List.mem_cons_of_mem _ hx)) (by simp; omega)
    rw [List.append_assoc] at ih
    refine ForB.cons (ρ₂ := wR (out ++ [wd (q.2, (wval ord q, q.1))]) ord S) (As.tuple (.cons .c (.cons .c .nil))) ?_ ih
    refine Ex.post (ρ₁ := ("pairs", .own (out ++ [wd (q.2, (wval ord q, q.1))])) :: ("value", .val (.int (wval ord q))) :: ("s", .val (.int q.2)) :: ("n", .val (.int q.1)) :: wR out ord S) ?_ (Sub.cons rfl (Sub.cons rfl (Sub.cons rfl Sub.nil)))
    refine Ex.cons (Es.assign (.bcall G.sum (CallB.sumL (ns := (ord.filter fun p => lexB p q).map fun p => (2 : Int) ^ (q.1 - p.1).toNat)) (.one (EvN.comp (rs := nums ((ord.filter fun p => lexB p q).map fun p => (2 : Int) ^ (q.1 - p.1).toNat)) (.list (.name rfl)) (CompK.of [("n", .int q.1), ("s", .int q.2)] (by simp only [List.mem_cons, List.not_mem_nil, or_false, forall_eq_or_imp, forall_eq]; exact ⟨⟨rfl, rfl, rfl, rfl⟩, rfl, rfl, rfl, rfl⟩) rfl rfl rfl rfl) ?_ (by rw [sizeLine_eq]; simp; omega)).ev)) (.inl rfl)) ?_
    · rw [nums, List.map_map]
      refine CompB.eachIf2 (u := fun p : Int × Int => .int p.1) (v := fun p => .int p.2) (p := fun p => lexB p q) rfl rfl ord (fun p hp => ?_) fun p hp hlt => ?_
      · exact Tt.cmp (.tuple (.two (.name rfl) (.name rfl))) (.tuple (.two (.name rfl) (.name rfl))) Bin.ltT
      · have h1 := hb q hq0 p hp
        simp only [lexB, Bool.or_eq_true, Bool.and_eq_true, decide_eq_true_eq] at hlt
        exact .pow2 .int (.bin (.name rfl) (.name rfl) .sub) (by omega) (by omega)
    · exact Ex.cons (Es.append rfl (.tuple (.two (.name rfl) (.tuple (.two (.name rfl) (.name rfl))))) (by intro _ _ q; cases q) (by rw [sizeLine_eq]; omega)) Ex.nil

def ordOf (F : List Tr) (ord : List (Int × Int)) : List (Int × Int) := match ord with | [q] => [(1, q.2)] | o => o
theorem words_fn0 (G : Gs C) : Fn C (n + 1) "_law_words" [.list []] (wordsD []) := by
  refine G.fnOf 27 ?_
  refine Ex.ret (Es.iff (b := true) ((Tt.cmp (.bcall G.len (.lenL (by simp)) (.one (.name rfl))) .int Bin.eqI).cast (by rfl)) ?_)
  exact Ex.ret (Es.ret (.dictEmpty G.sys))
end
end Sq
end

section
set_option autoImplicit false
set_option linter.unusedVariables false
open PySem PyProof.Rows
namespace Sq

def ord1 : List (Int × Int) → List (Int × Int)
  | [q] => [(1, q.2)]
  | o => o
def Lex (p q : Int × Int) : Prop := lexB p q = true
theorem pd_lt {p q : Int × Int} (h : Lex p q) : kLt (pd p) (pd q) := ⟨p.1, p.2, q.1, q.2, rfl, rfl, by simpa only [Lex, lexB, Bool.or_eq_true, Bool.and_eq_true, decide_eq_true_eq] using h⟩

section
variable {C : Cx} {n : Nat} {sc : Scope} {ρ : PEnv}
theorem words_tail (G : Gs C) (S : PyData) (ord : List (Int × Int)) (hl : ord.length ≤ 1000) (hb : ∀ p ∈ ord, ∀ q ∈ ord, p.1 - q.1 ≤ 1000) (hn : (ord.map (·.2)).Nodup) : Ex C n (fs 27) [("order", .val (.list (ord.map pd))), ("groups", .val S)] ((fb 27).drop 3) (.ret (wordsD (wordsOf ord))) := by
  refine Ex.cons (Es.assignN (.list .nil) (.inl rfl)) ?_
  refine Ex.cons (Es.for (.list (.name rfl)) (words_loop G S ord hl hb ord [] (fun _ h => h) (by simp; omega))) ?_
  refine Ex.frz (x := "pairs") rfl (Ex.ret (Es.ret (.tcall G.dict (CallB.dictL (ps := (wordsOf ord).map fun p => (p.1, pd p.2)) G.sys ?_ ?_) (.one ((Ev.name rfl).cast ?_)))))
  · rw [wordsOf, List.map_map, List.map_map]; exact hn
  · rw [sizeLine_eq]; simp [wordsOf]; omega
  · rw [wordsOf, List.map_map, List.map_map, List.nil_append]; rfl
theorem words_fn (G : Gs C) (t : Tr) (r : List Tr) (ord : List (Int × Int)) (hr : r.length ≤ 9000) (hp : ord.Perm ((t.lv 0).map fun p => (p.2, p.1))) (hs : ord.Pairwise Lex) (hn : ((t.lv 0).map (·.1)).Nodup) (h64 : (t.lv 0).length < 64) (hb : ∀ p ∈ t.lv 0, 0 ≤ p.2 ∧ p.2 ≤ 1000) :
    Fn C (n + 1) "_law_words" [.list ((t :: r).map gd)] (wordsD (wordsOf (ord1 ord))) := by
  refine G.fnOf 27 ?_
  have hol : ord.length = (t.lv 0).length := by have := hp.length_eq; simpa using this
  have hon : (ord.map (·.2)).Nodup := by
    have := (hp.map (·.2)).nodup_iff.mpr (by rw [List.map_map]; exact hn)
    exact this
  have hmem : ∀ q ∈ ord, 0 ≤ q.1 ∧ q.1 ≤ 1000 := fun q hq => by
    obtain ⟨p, h1, rfl⟩ := List.mem_map.mp (hp.mem_iff.mp hq)
    exact hb p h1
  refine Ex.cons (Es.iff (b := false) ((Tt.cmp (.bcall G.len (.lenL (by simp; omega)) (.one (.name rfl))) .int Bin.eqI).cast (by simp; omega)) Ex.nil) ?_
  refine Ex.cons (Es.assign (EvN.call G.sorted rfl (.builtin _) (.one (EvN.comp (rs := ((t.lv 0).map fun p => (p.2, p.1)).map pd) (.list (.atT (.atL (.name rfl) .int) .int)) (CompK.of [] (by simp) rfl rfl rfl rfl) ?_ (by rw [sizeLine_eq]; simp; omega)).ev) (CallN.sorted (out := ord.map pd) ?_ ?_ (by simpa using h64) (hp.map pd) (List.pairwise_map.mpr (hs.imp pd_lt)))).ev (.inl rfl)) ?_
  · rw [List.map_map]
    exact CompB.each2 (u := fun p : Int × Int => .int p.1) (v := fun p => .int p.2) rfl rfl (t.lv 0) fun p _ => .tuple (.two (.name rfl) (.name rfl))
  · intro d hd; obtain ⟨p, _, rfl⟩ := List.mem_map.mp hd; rfl
  · rw [List.map_map, List.map_map]
    refine List.pairwise_map.mpr ((List.pairwise_map.mp hn).imp fun {a b} hne e => hne ?_)
    have e' : some (a.2, a.1) = some (b.2, b.1) := e
    simp only [Option.some.injEq, Prod.mk.injEq] at e'
    exact e'.2
  match ord, hol, hon, hmem with
  | [q], hol, hon, hmem =>
    refine Ex.cons (Es.iff (b := true) ((Tt.cmp (.bcall G.len (.lenL (by simp)) (.one (.name rfl))) .int Bin.eqI).cast (by rfl)) (Ex.cons (Es.assign (EvN.list (.one (.tuple (.two .int (.atT (.atL (.name rfl) .int) .int))))).ev (.inl rfl)) Ex.nil)) ?_
    refine Ex.weak (ρ' := [("order", .val (.list ([(1, q.2)].map pd))), ("groups", .val (.list ((t :: r).map gd)))]) ?_ (Sub.cons rfl (Sub.cons rfl Sub.nil))
    exact words_tail G _ [(1, q.2)] (by simp) (by simp) (by simp)
  | [], hol, hon, hmem =>
    refine Ex.cons (Es.iff (b := false) ((Tt.cmp (.bcall G.len (.lenL (by simp)) (.one (.name rfl))) .int Bin.eqI).cast (by rfl)) Ex.nil) ?_
    refine Ex.weak (ρ' := [("order", .val (.list (([] : List (Int × Int)).map pd))), ("groups", .val (.list ((t :: r).map gd)))]) ?_ (Sub.cons rfl (Sub.cons rfl Sub.nil))
    exact words_tail G _ [] (by simp) (by simp) (by simp)
  | q1 :: q2 :: o, hol, hon, hmem =>
    refine Ex.cons (Es.iff (b := false) ((Tt.cmp (.bcall G.len (.lenL (by rw [List.length_map, hol]; omega)) (.one (.name rfl))) .int Bin.eqI).cast (by simp; omega)) Ex.nil) ?_
    refine Ex.weak (ρ' := [("order", .val (.list ((q1 :: q2 :: o).map pd))), ("groups", .val (.list ((t :: r).map gd)))]) ?_ (Sub.cons rfl (Sub.cons rfl Sub.nil))
    exact words_tail G _ (q1 :: q2 :: o) (by rw [hol]; omega) (fun p hp q hq => by have := hmem p hp; have := hmem q hq; omega) hon

def wl (ws : List (Int × (Int × Int))) (s : Int) : Int × Int := (ws.lookup s).getD (0, 0)
def num1 (ws : List (Int × (Int × Int))) (st : Int × Int) (s : Int) : Int × Int := (st.1 * 2 ^ (wl ws s).2.toNat + (wl ws s).1, st.2 + (wl ws s).2)
theorem wl_lookup {ws : List (Int × (Int × Int))} {s : Int} (h : (ws.lookup s).isSome = true) : (ws.map fun p => (p.1, pd p.2)).lookup s = some (pd (wl ws s)) := by
  have : ∀ ws : List (Int × (Int × Int)), (ws.map fun p => (p.1, pd p.2)).lookup s = (ws.lookup s).map pd := by
    intro ws
    induction ws with
    | nil => rfl
    | cons p r ih =>
      obtain ⟨a, b⟩ := p
      simp only [List.map_cons, List.lookup_cons]
      cases s == a <;> simp [ih]
  rw [this]
  obtain ⟨c, hc⟩ := Option.isSome_iff_exists.mp h
  rw [wl, hc]; rfl
theorem num_loop (ws : List (Int × (Int × Int))) (S : PyData) : ∀ (ss : List Int) (x y : Int), (∀ s ∈ ss, (ws.lookup s).isSome = true ∧ 0 ≤ (wl ws s).2 ∧ (wl ws s).2 ≤ 40) →
    ForB C n (fs 28) (forT (stAt 28 2)) (forB (stAt 28 2)) [("width", .val (.int y)), ("number", .val (.int x)), ("stream", .val S), ("words", .val (wordsD ws))] (nums ss) [("width", .val (.int (ss.foldl (num1 ws) (x, y)).2)), ("number", .val (.int (ss.foldl (num1 ws) (x, y)).1)), ("stream", .val S), ("words", .val (wordsD ws))]
  | [], x, y, _ => .nil
  | s :: ss, x, y, h => by
    obtain ⟨h1, h2, h3⟩ := h s (List.mem_cons_self ..)
    refine ForB.cons (ρ₂ := [("width", .val (.int (num1 ws (x, y) s).2)), ("number", .val (.int (num1 ws (x, y) s).1)), ("stream", .val S), ("words", .val (wordsD ws))]) (As.name .l) ?_ (num_loop ws S ss _ _ fun z hz => h z (List.mem_cons_of_mem _ hz))
    refine Ex.post (ρ₁ := ("width", .val (.int (num1 ws (x, y) s).2)) :: ("number", .val (.int (num1 ws (x, y) s).1)) :: ("n", .val (.int (wl ws s).2)) :: ("value", .val (.int (wl ws s).1)) :: ("s", .val (.int s)) :: [("width", .val (.int y)), ("number", .val (.int x)), ("stream", .val S), ("words", .val (wordsD ws))]) ?_ (Sub.cons rfl (Sub.cons rfl (Sub.cons rfl (Sub.cons rfl Sub.nil))))
    refine Ex.cons (Es.assignT (Ev.itemD (.name rfl) (.name rfl) (wl_lookup h1)) (.cons .l (.cons .l .nil))) ?_
    refine Ex.cons (Es.assign (.bin (.mulS (.name rfl) (.pow2 .int (.name rfl) h2 (by omega)) ?_) (.name rfl) .add) (.inl rfl)) ?_
    · have hp : (2 : Int) ^ (wl ws s).2.toNat ≤ 2 ^ 40 := (show ∀ e : Nat, e < 41 → (2 : Int) ^ e ≤ 2 ^ 40 by decide) _ (by omega)
      have h0 : (0 : Int) < 2 ^ (wl ws s).2.toNat := Int.pow_pos (by decide)
      constructor
      · omega
      · have : (2 : Int) ^ 40 < 2 ^ 64 := by decide
        omega
    · exact Ex.cons (Es.assign (.bin (.name rfl) (.name rfl) .add) (.inl rfl)) Ex.nil
theorem number_fn (G : Gs C) (ws : List (Int × (Int × Int))) (ss : List Int) (h : ∀ s ∈ ss, (ws.lookup s).isSome = true ∧ 0 ≤ (wl ws s).2 ∧ (wl ws s).2 ≤ 40) : Fn C (n + 1) "_law_number" [.list (nums ss), wordsD ws] (.tuple [.int (ss.foldl (num1 ws) (0, 0)).1, .int (ss.foldl (num1 ws) (0, 0)).2]) := by
  refine G.fnOf 28 ?_
  refine Ex.cons (Es.assign .int (.inl rfl)) (Ex.cons (Es.assign .int (.inl rfl)) ?_)
  refine Ex.cons (Es.for (.list (.name rfl)) (num_loop ws _ ss 0 0 h)) ?_
  exact Ex.ret (Es.ret (.tuple (.two (.name rfl) (.name rfl))))

def digits (x : Int) (size wide : Nat) : List Int := (List.range size).map fun k : Nat => x / 2 ^ (wide * (size - 1 - k)) % 2 ^ wide
theorem digits_length (x : Int) (size wide : Nat) : (digits x size wide).length = size := by simp [digits]
theorem and_mask {x : Int} (hx : 0 ≤ x) (w : Nat) : Builtin.bitAnd x (2 ^ w - 1) = x % 2 ^ w := by
  obtain ⟨a, rfl⟩ := Int.eq_ofNat_of_zero_le hx
  have h1 : (0 : Int) ≤ 2 ^ w - 1 := by have : (0 : Int) < 2 ^ w := Int.pow_pos (by decide); omega
  unfold Builtin.bitAnd
  rw [decide_eq_true hx, decide_eq_true h1]
  have e : ((2 : Int) ^ w - 1).toNat = 2 ^ w - 1 := by
    have : ((2 : Int) ^ w) = ((2 ^ w : Nat) : Int) := by simp
    rw [this]; have := Nat.one_le_two_pow (n := w); omega
  show ((((a : Int).toNat &&& ((2 : Int) ^ w - 1).toNat : Nat)) : Int) = _
  rw [e, Int.toNat_natCast, Nat.and_two_pow_sub_one_eq_mod]
  simp
theorem digits_fn (G : Gs C) (x : Int) (size wide : Nat) (hx : 0 ≤ x) (hs : size ≤ 10000) (hw : wide ≤ 60) : Fn C (n + 1) "_law_digits" [.int x, .int size, .int wide] (.list (nums (digits x size wide))) := by
  refine G.fnOf 29 ?_
  refine Ex.ret (Es.ret (EvN.comp (rs := nums (digits x size wide)) (EvI.upto G (.name rfl) (by omega)) (CompK.of [("number", .int x), ("wide", .int wide), ("size", .int size)] (by simp only [List.mem_cons, List.not_mem_nil, or_false, forall_eq_or_imp, forall_eq]; exact ⟨⟨rfl, rfl, rfl, rfl⟩, ⟨rfl, rfl, rfl, rfl⟩, rfl, rfl, rfl, rfl⟩) rfl rfl rfl rfl) ?_ (by rw [sizeLine_eq]; simp; omega)).ev)
  rw [show nums (digits x size wide) = (List.range size).map fun k : Nat => PyData.int (x / 2 ^ (wide * (size - 1 - k)) % 2 ^ wide) by simp [digits, nums]]
  refine CompB.each (f := fun k : Nat => .int k) rfl (List.range size) fun k hk => ?_
  have hk' := List.mem_range.mp hk
  have hb : ((size : Int) - 1 - k) = ((size - 1 - k : Nat) : Int) := by omega
  have hmul : (wide : Int) * ((size : Int) - 1 - k) = ((wide * (size - 1 - k) : Nat) : Int) := by rw [hb]; simp
  refine (Ev.bin (.bin (.name rfl) (.mulS (.name rfl) (.bin (.bin (.name rfl) .int .sub) (.name rfl) .sub) (by omega)) (Bin.shr (by rw [hmul]; omega))) (.bin (.pow2 .int (.name rfl) (by omega) (by omega)) .int .sub) Bin.band).cast ?_
  rw [hmul, Int.toNat_natCast, Int.toNat_natCast]
  have hp : (0 : Int) < 2 ^ (wide * (size - 1 - k)) := Int.pow_pos (by decide)
  rw [Int.fdiv_eq_ediv_of_nonneg _ (by omega), and_mask (Int.ediv_nonneg hx (by omega))]

def adler (xs : List Int) : Int :=
  ((xs.length + ((List.range xs.length).map fun k : Nat => ((xs.length : Int) - k) * xs.getD k 0).sum) % 65521) * 65536 + (1 + xs.sum) % 65521
theorem adler_fn (G : Gs C) (xs : List Int) (hl : xs.length ≤ 10000) (hb : ∀ x ∈ xs, 0 ≤ x ∧ x ≤ 1000) : Fn C (n + 1) "_law_adler" [.list (nums xs)] (.int (adler xs)) := by
  refine G.fnOf 30 ?_
  refine Ex.cons (Es.assign ((Ev.bcall G.len (.lenL (by rw [nums_length]; omega)) (.one (.name rfl))).cast (d' := .int xs.length) (by rw [nums_length])) (.inr rfl)) ?_
  refine Ex.cons (Es.assign (.modN (.bin .int (.bcall G.sum (CallB.sumL (ns := xs)) (.one (.name rfl))) .add) .int (by decide)) (.inl rfl)) ?_
  refine Ex.cons (Es.assign (.modN (.bin (.name rfl) (.bcall G.sum (CallB.sumL (ns := (List.range xs.length).map fun k : Nat => ((xs.length : Int) - k) * xs.getD k 0)) (.one (EvN.comp (rs := nums ((List.range xs.length).map fun k : Nat => ((xs.length : Int) - k) * xs.getD k 0)) (EvI.upto G (.name rfl) (by omega)) (CompK.of [("size", .int xs.length), ("text", .list (nums xs))] (by simp only [List.mem_cons, List.not_mem_nil, or_false, forall_eq_or_imp, forall_eq]; exact ⟨⟨rfl, rfl, rfl, rfl⟩, rfl, rfl, rfl, rfl⟩) rfl rfl rfl rfl) ?_ (by rw [sizeLine_eq]; simp; omega)).ev)) .add) .int (by decide)) (.inl rfl)) ?_
  · rw [show nums ((List.range xs.length).map fun k : Nat => ((xs.length : Int) - k) * xs.getD k 0) = (List.range xs.length).map fun k : Nat => PyData.int (((xs.length : Int) - k) * xs.getD k 0) by simp [nums]]
    refine CompB.each (f := fun k : Nat => .int k) rfl (List.range xs.length) fun k hk => ?_
    have hk' := List.mem_range.mp hk
    have hm : xs.getD k 0 ∈ xs := by rw [List.getD_eq_getElem?_getD, List.getElem?_eq_getElem hk']; simp
    have := hb _ hm
    exact .mulS (.bin (.name rfl) (.name rfl) .sub) (.atL (.name rfl) (.name rfl) (by rw [Int.toNat_natCast]; exact nums_get hk') (by omega) (by omega)) (by omega)
  · exact Ex.ret (Es.ret (.bin (.mulS (.name rfl) .int (by decide)) (.name rfl) .add))
def headL (ls : List Int) (a b c : Int) : List Int := [83, 81] ++ digits a 4 8 ++ digits b 4 8 ++ digits c 4 8 ++ ls
theorem head_fn (G : Gs C) (ls : List Int) (a b c : Int) (hl : ls.length ≤ 100000) (ha : 0 ≤ a) (hb : 0 ≤ b) (hc : 0 ≤ c) : Fn C (n + 2) "_law_head" [.list (nums ls), .int a, .int b, .int c] (.list (nums (headL ls a b c))) := by
  refine G.fnOf 31 ?_
  have dg : ∀ x : Int, 0 ≤ x → Fn C (n + 1) "_law_digits" [.int x, .int 4, .int 8] (.list (nums (digits x 4 8))) := fun x hx => digits_fn G x 4 8 hx (by decide) (by decide)
  refine Ex.ret (Es.ret ((EvN.bin (EvN.bin (EvN.bin (EvN.bin (EvN.list (.two .int .int)).ev (.fcall (dg a ha) (.three (.name rfl) .int .int)) (BinN.cat ?_)).ev (.fcall (dg b hb) (.three (.name rfl) .int .int)) (BinN.cat ?_)).ev (.fcall (dg c hc) (.three (.name rfl) .int .int)) (BinN.cat ?_)).ev (.name rfl) (BinN.cat ?_)).ev.cast ?_))
  · rw [sizeLine_eq]; simp [nums, digits]
  · rw [sizeLine_eq]; simp [nums, digits]
  · rw [sizeLine_eq]; simp [nums, digits]
  · rw [sizeLine_eq]; simp [nums, digits]; omega
  · simp [nums, headL]
end
end Sq
end

section
set_option autoImplicit false
set_option linter.unusedVariables false
open PySem PyProof.Rows
namespace Sq
theorem FnAt.of {C : Cx} {i : Nat} {f c : Addr} {o oc : Obj} {fd : FuncData} {cvs : Array Value} {t : Tok} {m : Nat} (hK : C.K0 f = some o) (hd : o.data = .func fd) (hb : fd.body = .stmts (fb i)) (hs : fd.scope = fs i) (hg : fd.globals = mainGlobals) (hbi : fd.builtins = builtinsNs) (hcl : fd.closure = [])
    (hm : (fp i).length = m) (hbind : ∀ vs : List Value, vs.length = m → bindArgs fd ⟨vs, []⟩ = pure ((fp i).zip vs)) (hcode : fd.code = .ref c) (hKc : C.K0 c = some oc) (hdc : oc.data = .fields cvs) (hq : cvs[1]? = some (.str fd.qualname t))
    (hkind : (fs i).kind = .function) (hgen : (fs i).isGenerator = false) (hco : (fs i).isCoroutine = false) (hpar : (fp i).all (fun p => (fs i).names.lookup p == some .local || (fs i).names.lookup p == some .cell) = true) (hnod : (fp i).Nodup) : FnAt C f (fp i) (fb i) (fs i) := by
  refine ⟨⟨o, fd, hK, hd, hb, hs, hg, hbi, hcl, fun vs h => hbind vs (h.trans hm), c, oc, cvs, t, hcode, hKc, hdc, hq⟩, hkind, hgen, hco, fun p hp => ?_, hnod⟩
  have := List.all_eq_true.mp hpar p hp
  simpa using this
theorem bnd1 {P : List Value → Prop} (h : ∀ a, P [a]) : ∀ vs : List Value, vs.length = 1 → P vs
  | [a], _ => h a
theorem bnd2 {P : List Value → Prop} (h : ∀ a b, P [a, b]) : ∀ vs : List Value, vs.length = 2 → P vs
  | [a, b], _ => h a b
theorem bnd3 {P : List Value → Prop} (h : ∀ a b c, P [a, b, c]) : ∀ vs : List Value, vs.length = 3 → P vs
  | [a, b, c], _ => h a b c
theorem bnd4 {P : List Value → Prop} (h : ∀ a b c d, P [a, b, c, d]) : ∀ vs : List Value, vs.length = 4 → P vs
  | [a, b, c, d], _ => h a b c d

def topC (p : Program) (w : World) (s₁ : Shared) (P : Addr) : Cx := { prog := p, w := w, K0 := fun a => if a = P then none else s₁.heap.get? a, P := P, tab := fun ps => TriplesOk ps.toList, os := s₁.os }
theorem topC_get {p : Program} {w : World} {s₁ : Shared} {P a : Addr} {o : Obj} (hne : a ≠ P) (h : s₁.heap.get? a = some o) : (topC p w s₁ P).K0 a = some o := by
  show (if a = P then none else s₁.heap.get? a) = some o
  rw [if_neg hne]; exact h
theorem topC_tab (p : Program) (w : World) (s₁ : Shared) (P : Addr) : TabK (topC p w s₁ P) where
  ok := fun ps h => h
  grow := fun ps x y c h => by
    show TriplesOk (ps ++ #[rawInt x, rawInt y, .ref c]).toList
    rw [Array.toList_append]
    exact TriplesOk_snoc _ _ _ _ h
end Sq
end

section
set_option autoImplicit false
set_option linter.unusedVariables false
open PySem PyProof.Rows
namespace Sq

def Lx (C : Cx) (n : Nat) (sc : Scope) (A : Around) (env : Env) (X : HM) (ρ : PEnv) (st : List Stmt) (r : PyData) : Prop :=
  ∀ (K M : HM) (s : Shared) (E : Value → Shared → Prop), EnvOk K M sc env ρ → Inv C K (M.join X) s → Disj M X → wpAny C.md A (execs st env) (OutAt C K X sc env (.ret r)) E s

section
variable {C : Cx} {n : Nat} {sc : Scope} {A : Around} {env : Env} {X : HM} {ρ : PEnv} {r : PyData}
theorem Lx.cons (a : AOk n A) {st : Stmt} {rest : List Stmt} {ρ₁ : PEnv} (h : Es C n sc ρ st (.next ρ₁)) (k : Lx C n sc A env X ρ₁ rest r) : Lx C n sc A env X ρ (st :: rest) r := by
  intro K M s E O I D
  refine wpAny_execs_cons (wpAny_mono (h A K M X env s E a O I D) (fun f s' p => ?_) fun _ _ x => x)
  obtain ⟨K', M', l, I', D', rfl, O'⟩ := p
  exact wpAny_mono (k K' M' s' E O' I' D') (fun _ _ p => p.up l) fun _ _ x => x
theorem Lx.weak {ρ' : PEnv} {st : List Stmt} (h : Lx C n sc A env X ρ' st r) (hw : Sub ρ' ρ) : Lx C n sc A env X ρ st r :=
  fun K M s E O I D => h K M s E (O.weak hw) I D
theorem Lx.frz {x : Str} {ds : List PyData} {st : List Stmt} (hx : ρ.lookup x = some (.own ds)) (h : Lx C n sc A env X ((x, .val (.list ds)) :: ρ) st r) : Lx C n sc A env X ρ st r := by
  intro K M s E O I D
  obtain ⟨K', M', l, I', D', O'⟩ := O.freeze I D hx
  exact wpAny_mono (h K' M' s E O' I' D') (fun _ _ p => p.up l) fun _ _ x => x
theorem Lx.of (a : AOk n A) {st : List Stmt} (h : Ex C n sc ρ st (.ret r)) : Lx C n sc A env X ρ st r := fun K M s E O I D => h A K M X env s E a O I D

theorem Es.tryOk {body : List Stmt} {h₀ : ExceptHandler} {hs : List ExceptHandler} {pos : Pos} {ρ₁ : PEnv} (h : Ex C n sc ρ body (.next ρ₁)) : Es C n sc ρ (.Try body (h₀ :: hs) [] [] pos) (.next ρ₁) := by
  intro A K M X env s E a O I D
  refine wpAny_Try_except (wpAny_mono (h A K M X env s _ a O I D) (fun f s' p => ?_) fun _ _ x => x)
  obtain ⟨K', M', l, I', D', rfl, O'⟩ := p
  exact wpAny_execs_nil ⟨K', M', l, I', D', rfl, O'⟩
end

section
variable {C : Cx} {n : Nat} {sc : Scope} {ρ ρ₀ : PEnv}
theorem Es.forW {t iter : Expr} {body : List Stmt} {pos : Pos} {ds : List PyData} {ρ' : PEnv} (hi : EvI C n sc ρ iter ds) (hw : Sub ρ₀ ρ) (h : ForB C n sc t body ρ₀ ds ρ')
    (hs : ∀ (env : Env) (x : Value), foldedSetIterable iter env x = pure x := by intro _ _; rfl) : Es C n sc ρ (.For t iter body [] pos) (.next ρ') := by
  intro A K M X env s E a O I D
  refine wpAny_For (hi A K (M.join X) env s E _ a (O.rdX X) I fun it o s₂ K₂ l₂ hY hK I₂ hio => ?_) (hs env)
  have hM : M it = none := by
    cases q : M it with
    | none => rfl
    | some ob => rw [HM.join_left q] at hY; cases hY
  have hX : X it = none := by rw [HM.join_right hM] at hY; exact hY
  rw [HM.join_set_right hM] at I₂
  have D₂ : Disj M (X.set it o) := fun b ob e => by
    have q : b ≠ it := fun q => by rw [q, hM] at e; cases e
    rw [HM.set_ne _ _ q]; exact D b ob e
  have hdel : ∀ b, (X.set it o).del it b = X b := fun b => by
    by_cases q : b = it
    · rw [q, HM.del_self, hX]
    · rw [HM.del_ne _ q, HM.set_ne _ _ q]
  refine h.run a ((O.weak hw).monoK l₂) I₂ D₂ (HM.set_self ..) hM hio fun s' K' M' l' I' D' O' => ?_
  rw [funext hdel] at I' D'
  exact ⟨K', M', l₂.trans l', I', D', rfl, O'⟩
end

def gi (ns : List Int) (i : Nat) : Int := ns.getD i 0
def cellsOf (ns : List Int) : List (Int × Int) := [(gi ns 1, gi ns 2), (gi ns 3, gi ns 4), (gi ns 5, gi ns 6), (gi ns 7, gi ns 8), (gi ns 9, gi ns 10), (gi ns 11, gi ns 12), (gi ns 13, gi ns 14)]
def bst (st : List Tok3 × List Int) (c : Int × Int) : List Tok3 × List Int := (st.1 ++ [tokOf c.1 c.2 st.2.length], st.2 ++ piece (tokOf c.1 c.2 st.2.length) st.2)
def built (ns : List Int) : List Tok3 × List Int := ((cellsOf ns).take (gi ns 0 % 8).toNat).foldl bst ([], [])

theorem tok_ok (h w : Int) (size : Nat) (hs : size ≤ 60000) : ((tokOf h w size).k ≠ 0 → 1 ≤ (tokOf h w size).v ∧ (tokOf h w size).v ≤ size ∧ 0 ≤ (tokOf h w size).l ∧ (tokOf h w size).l ≤ 255) ∧ ((tokOf h w size).k = 0 → 0 ≤ (tokOf h w size).v ∧ (tokOf h w size).v ≤ 255) := by
  unfold tokOf
  split
  · refine ⟨fun h => absurd rfl h, fun _ => ?_⟩
    have hm : (w % 8).toNat < 8 := by omega
    show 0 ≤ plainL8.getD (w % 8).toNat 0 ∧ plainL8.getD (w % 8).toNat 0 ≤ 255
    exact (show ∀ i : Nat, i < 8 → 0 ≤ plainL8.getD i 0 ∧ plainL8.getD i 0 ≤ 255 by decide) _ hm
  · rename_i hc
    refine ⟨fun _ => ?_, fun h => absurd (show (1 : Int) = 0 from h) (by decide)⟩
    have h1 : size ≠ 0 := fun e => hc (.inl e)
    have h2 : ¬ h % 12 < 7 := fun e => hc (.inr e)
    have hm : (h % 12 - 7).toNat < 5 := by omega
    have hl := (show ∀ i : Nat, i < 5 → 0 ≤ spans5.getD i 0 ∧ spans5.getD i 0 ≤ 255 by decide) _ hm
    have hw : 0 ≤ w % (size : Int) ∧ w % (size : Int) < size := ⟨Int.emod_nonneg _ (by omega), Int.emod_lt_of_pos _ (by omega)⟩
    exact ⟨by show 1 ≤ 1 + w % (size : Int); omega, by show 1 + w % (size : Int) ≤ size; omega, hl⟩
theorem piece_len (t : Tok3) (x : List Int) (h : t.k ≠ 0 → 0 ≤ t.l ∧ t.l ≤ 255) : (piece t x).length ≤ 255 := by
  unfold piece
  split
  · simp
  · rename_i hk
    have := h hk
    rw [List.length_take]; omega
theorem piece_range (t : Tok3) (x : List Int) (h0 : t.k = 0 → 0 ≤ t.v ∧ t.v ≤ 255) (hx : ∀ b ∈ x, 0 ≤ b ∧ b ≤ 255) : ∀ b ∈ piece t x, 0 ≤ b ∧ b ≤ 255 := by
  unfold piece
  split
  · rename_i hk
    intro b hb
    simp only [List.mem_singleton] at hb
    subst hb; exact h0 hk
  · intro b hb
    have hb' := List.mem_of_mem_take hb
    obtain ⟨l, hl, hbl⟩ := List.mem_flatten.mp hb'
    rw [List.mem_replicate] at hl
    rw [hl.2] at hbl
    exact hx b (List.mem_of_mem_drop hbl)
theorem spell_range (t : Tok3) (size : Nat) (hs : size ≤ 60000) (h : t.k ≠ 0 → 1 ≤ t.v ∧ t.v ≤ size ∧ 0 ≤ t.l ∧ t.l ≤ 255) (h0 : t.k = 0 → 0 ≤ t.v ∧ t.v ≤ 255) : ∀ s ∈ spell t, 0 ≤ s ∧ s < 257 := by
  unfold spell
  split
  · rename_i hk
    intro b hb
    simp only [List.mem_singleton] at hb
    subst hb; have := h0 hk; omega
  · rename_i hk
    have := h hk
    intro b hb
    simp only [List.mem_cons, List.not_mem_nil, or_false] at hb
    rcases hb with rfl | rfl | rfl | rfl <;> omega
structure BOk (st : List Tok3 × List Int) (k : Nat) : Prop where
  len : st.1.length = k
  xl : st.2.length ≤ 255 * k
  xr : ∀ b ∈ st.2, 0 ≤ b ∧ b ≤ 255
  sr : ∀ s ∈ st.1.flatMap spell, 0 ≤ s ∧ s < 257
theorem BOk.step {st : List Tok3 × List Int} {k : Nat} (h : BOk st k) (hk : k ≤ 30) (c : Int × Int) : BOk (bst st c) (k + 1) := by
  have hs : st.2.length ≤ 60000 := by have := h.xl; omega
  obtain ⟨t1, t2⟩ := tok_ok c.1 c.2 st.2.length hs
  refine ⟨by simp [bst, h.len], ?_, ?_, ?_⟩
  · have := piece_len (tokOf c.1 c.2 st.2.length) st.2 fun q => ⟨(t1 q).2.2.1, (t1 q).2.2.2⟩
    simp only [bst, List.length_append]; have := h.xl; omega
  · intro b hb
    simp only [bst, List.mem_append] at hb
    rcases hb with hb | hb
    · exact h.xr b hb
    · exact piece_range _ _ t2 h.xr b hb
  · intro s hs'
    simp only [bst, List.flatMap_append, List.mem_append, List.flatMap_cons, List.flatMap_nil, List.append_nil] at hs'
    rcases hs' with hs' | hs'
    · exact h.sr s hs'
    · exact spell_range _ st.2.length hs t1 t2 s hs'
theorem BOk.nil : BOk ([], []) 0 := ⟨rfl, by simp, by simp, by simp⟩
theorem BOk.all : ∀ (cs : List (Int × Int)) (st : List Tok3 × List Int) (k : Nat), BOk st k → k + cs.length ≤ 30 → BOk (cs.foldl bst st) (k + cs.length)
  | [], st, k, h, _ => h
  | c :: cs, st, k, h, hk => by
    simp only [List.length_cons] at hk ⊢
    have := BOk.all cs (bst st c) (k + 1) (h.step (by omega) c) (by omega)
    rw [show k + (cs.length + 1) = k + 1 + cs.length by omega]
    exact this

section
variable {C : Cx} {n : Nat}
abbrev bR (st : List Tok3 × List Int) (S Cl : PyData) : PEnv := [("tokens", .own (st.1.map td)), ("text", .val (.list (nums st.2))), ("stream", .val (.list (nums (st.1.flatMap spell)))), ("script", .val S)]
theorem built_loop (G : Gs C) (S Cl : PyData) : ∀ (cs : List (Int × Int)) (st : List Tok3 × List Int) (k : Nat), BOk st k → k + cs.length ≤ 30 →
    ForB C (n + 1) (fs 32) (forT (stAt 32 5)) (forB (stAt 32 5)) (bR st S Cl) (cs.map pd) (bR (cs.foldl bst st) S Cl)
  | [], st, k, _, _ => .nil
  | c :: cs, st, k, h, hk => by
    simp only [List.length_cons] at hk
    have hs : st.2.length ≤ 60000 := by have := h.xl; omega
    obtain ⟨t1, t2⟩ := tok_ok c.1 c.2 st.2.length hs
    have hlen := h.len
    have hxl := h.xl
    have hspell : (st.1.flatMap spell).length ≤ 4 * 30 := by
      have : ∀ l : List Tok3, (l.flatMap spell).length ≤ 4 * l.length := by
        intro l
        induction l with
        | nil => simp
        | cons a l ih => simp only [List.flatMap_cons, List.length_append, List.length_cons]; have := spell_length a; omega
      have := this st.1; omega
    refine ForB.cons (ρ₂ := bR (bst st c) S Cl) (As.tuple (.cons .l (.cons .l .nil))) ?_ (built_loop G S Cl cs (bst st c) (k + 1) (h.step (by omega) c) (by omega))
    refine Ex.post (ρ₁ := ("stream", .val (.list (nums (st.1.flatMap spell ++ spell (tokOf c.1 c.2 st.2.length))))) :: ("text", .val (.list (nums (st.2 ++ piece (tokOf c.1 c.2 st.2.length) st.2)))) :: ("tokens", .own (st.1.map td ++ [td (tokOf c.1 c.2 st.2.length)])) :: ("token", .val (td (tokOf c.1 c.2 st.2.length))) :: ("what", .val (.int c.2)) :: ("how", .val (.int c.1)) :: bR st S Cl) ?_ (Sub.cons (by show some (PV.own _) = some (PV.own _); simp [bst]) (Sub.cons rfl (Sub.cons (by show some (PV.val _) = some (PV.val _); simp [bst, List.flatMap_append]) (Sub.cons rfl Sub.nil))))
    refine Ex.cons (Es.assign (.fcall (token_fn G c.1 c.2 st.2.length (by omega)) (.three (.name rfl) (.name rfl) ((Ev.bcall G.len (.lenL (by rw [nums_length]; omega)) (.one (.name rfl))).cast (by rw [nums_length])))) (.inl rfl)) ?_
    refine Ex.cons (Es.append rfl (.name rfl) (by intro _ _ q; cases q) (by rw [sizeLine_eq]; simp; omega)) ?_
    refine Ex.cons (Es.assign ((EvN.bin (.name rfl) (.fcall (piece_fn G (tokOf c.1 c.2 st.2.length) st.2 (by omega) t1) (.two (.name rfl) (.name rfl))) (BinN.cat (by rw [sizeLine_eq, nums_length, nums_length]; have := piece_len (tokOf c.1 c.2 st.2.length) st.2 fun q => ⟨(t1 q).2.2.1, (t1 q).2.2.2⟩; omega))).ev.cast (by rw [nums_append])) (.inl rfl)) ?_
    exact Ex.cons (Es.assign ((EvN.bin (.name rfl) (.fcall (spell_fn G (tokOf c.1 c.2 st.2.length)) (.one (.name rfl))) (BinN.cat (by rw [sizeLine_eq, nums_length, nums_length]; have := spell_length (tokOf c.1 c.2 st.2.length); omega))).ev.cast (by rw [nums_append])) (.inr rfl)) Ex.nil
end
end Sq
end

section
set_option autoImplicit false
set_option linter.unusedVariables false
open PySem PyProof.Rows
namespace Sq

def WL (ws : List (Int × (Int × Int))) : List Int := (List.range 257).map fun s : Nat => (wl ws (s : Int)).2
def WC (ws : List (Int × (Int × Int))) : List (Int × Int) := (List.range 257).map fun s : Nat => wl ws (s : Int)
theorem WL_length (ws : List (Int × (Int × Int))) : (WL ws).length = 257 := by simp [WL]
theorem WC_length (ws : List (Int × (Int × Int))) : (WC ws).length = 257 := by simp [WC]
theorem WC_at (ws : List (Int × (Int × Int))) {s : Int} (h0 : 0 ≤ s) (h1 : s < 257) : codeAt (WC ws) s = wl ws s := by
  have : s.toNat < 257 := by omega
  simp only [codeAt, WC, List.getD_eq_getElem?_getD, List.getElem?_map, List.getElem?_range this, Option.map_some, Option.getD_some]
  rw [show ((s.toNat : Nat) : Int) = s by omega]

structure Facts (T : List Tok3) (x ss fr : List Int) (ws : List (Int × (Int × Int))) (M : Nat) : Prop where
  tl : T.length ≤ 7
  sse : T.flatMap spell = ss
  ssl : ss.length ≤ 28
  ssr : ∀ s ∈ ss, 0 ≤ s ∧ s < 257
  xl : x.length ≤ 2000
  xr : ∀ b ∈ x, 0 ≤ b ∧ b ≤ 255
  frl : fr.length = 257
  fr1 : ss.foldl inc (List.replicate 257 0) = fr
  fr2 : (List.range 257).map (fun k : Nat => ((ss.count (k : Int) : Nat) : Int)) = fr
  frst : (forest0 fr (List.range fr.length) []).length < 64
  tree : ∀ t r, huffF fr = t :: r → t.sz ≤ 100000 ∧ t.ht ≤ 64 ∧ ∀ p ∈ t.lv 0, 0 ≤ p.1 ∧ p.1 < fr.length
  lens : codeLens fr = WL ws
  mx : (M : Int) ∈ 0 :: WL ws
  mxall : ∀ j ∈ (0 : Int) :: WL ws, j ≤ M
  ml : M ≤ 100000
  can : (canon (WL ws) ((List.range M).map fun i : Nat => 1 + (i : Int))).1 = WC ws
  wok : ∀ s, (ws.lookup s).isSome = true → 1 ≤ (wl ws s).2 ∧ (wl ws s).2 ≤ 30
  sw : ∀ s ∈ ss, (ws.lookup s).isSome = true
  bits : ∀ l : List Int, (∀ s ∈ l, (ws.lookup s).isSome = true ∧ 0 ≤ s ∧ s < 257) → 0 ≤ (l.foldl (num1 ws) (0, 0)).1 ∧ (l.foldl (num1 ws) (0, 0)).2 = (enc (WC ws) l).length ∧ enc (WC ws) l = digits (l.foldl (num1 ws) (0, 0)).1 (enc (WC ws) l).length 1
  small : ∀ l : List Int, (∀ s ∈ l, (ws.lookup s).isSome = true ∧ 0 ≤ s ∧ s < 257) → l.length ≤ 30 → (enc (WC ws) l).length ≤ 900 ∧ Builtin.Int.intBits (l.foldl (num1 ws) (0, 0)).1 ≤ 1000
  pack : packB (enc (WC ws) ss) = digits ((ss.foldl (num1 ws) (0, 0)).1 * 2 ^ (-((enc (WC ws) ss).length : Int) % 8).toNat) (((enc (WC ws) ss).length + 7) / 8) 8
  adl : check x = adler x
  adlr : 0 ≤ check x ∧ check x < 4294967296

theorem four_digits {x : Int} (h0 : 0 ≤ x) (h1 : x < 4294967296) : four x = digits x 4 8 := by
  have e : digits x 4 8 = [x / 2 ^ 24 % 2 ^ 8, x / 2 ^ 16 % 2 ^ 8, x / 2 ^ 8 % 2 ^ 8, x / 2 ^ 0 % 2 ^ 8] := rfl
  rw [e, four]
  have e1 : (2 : Int) ^ 24 = 16777216 := by decide
  have e2 : (2 : Int) ^ 16 = 65536 := by decide
  have e3 : (2 : Int) ^ 8 = 256 := by decide
  have e4 : (2 : Int) ^ 0 = 1 := by decide
  rw [e1, e2, e3, e4, Int.ediv_one]
  congr 1
  omega
theorem header_head {ls : List Int} {a b c : Int} (ha : 0 ≤ a ∧ a < 4294967296) (hb : 0 ≤ b ∧ b < 4294967296) (hc : 0 ≤ c ∧ c < 4294967296) : header ls a b c = headL ls a b c := by
  unfold header headL
  rw [four_digits ha.1 ha.2, four_digits hb.1 hb.2, four_digits hc.1 hc.2]

section
variable {C : Cx} {n : Nat} {A : Around} {env : Env} {X : HM}
abbrev L1 (T : List Tok3) (x : List Int) (S : PyData) : PEnv := [("tokens", .val (.list (T.map td))), ("text", .val (.list (nums x))), ("stream", .val (.list (nums (T.flatMap spell)))), ("script", .val S)]
abbrev L2 (x ss fr : List Int) (S : PyData) : PEnv := [("text", .val (.list (nums x))), ("stream", .val (.list (nums ss))), ("symbols", .val (.list (nums ss))), ("counts", .val (.list (nums fr))), ("freq", .val (.list (nums fr))), ("script", .val S)]
abbrev L3 (x ss : List Int) (ws : List (Int × (Int × Int))) (S : PyData) : PEnv := [("text", .val (.list (nums x))), ("stream", .val (.list (nums ss))), ("symbols", .val (.list (nums ss))), ("words", .val (wordsD ws)), ("want_codes", .val (.list ((WC ws).map pd))), ("want_lengths", .val (.list (nums (WL ws)))), ("lengths", .val (.list (nums (WL ws)))), ("codes", .val (.list ((WC ws).map pd))), ("script", .val S)]
abbrev L4 (ss : List Int) (ws : List (Int × (Int × Int))) (S : PyData) : PEnv := [("stream", .val (.list (nums ss))), ("words", .val (wordsD ws)), ("want_codes", .val (.list ((WC ws).map pd))), ("want_lengths", .val (.list (nums (WL ws)))), ("lengths", .val (.list (nums (WL ws)))), ("codes", .val (.list ((WC ws).map pd))), ("script", .val S)]

theorem seg1 (G : Gs C) (a : AOk (n + 4) A) (ns : List Int) (hl : 20 ≤ ns.length) (hl2 : ns.length ≤ 63) (h : Lx C (n + 4) (fs 32) A env X (L1 (built ns).1 (built ns).2 (.list (nums ns))) ((fb 32).drop 6) (.bool true)) :
    Lx C (n + 4) (fs 32) A env X [("script", .val (.list (nums ns)))] (fb 32) (.bool true) := by
  have at_ : ∀ i : Nat, i < 20 → (nums ns)[((i : Nat) : Int).toNat]? = some (.int (gi ns i)) := fun i hi => by rw [Int.toNat_natCast]; exact nums_get (by omega)
  refine Lx.cons a (Es.iff (b := false) ((Tt.cmp (.bcall G.len (.lenL (by rw [nums_length]; omega)) (.one (.name rfl))) .int Bin.lt).cast (by rw [nums_length]; simp; omega)) Ex.nil) ?_
  refine Lx.cons a (Es.assign (d := .list ((cellsOf ns).map pd)) (EvN.list (.cons (.tuple (.two (.atL (.name rfl) .int (at_ 1 (by decide))) (.atL (.name rfl) .int (at_ 2 (by decide))))) (by intro _ _ q; cases q) (.cons (.tuple (.two (.atL (.name rfl) .int (at_ 3 (by decide))) (.atL (.name rfl) .int (at_ 4 (by decide))))) (by intro _ _ q; cases q) (.cons (.tuple (.two (.atL (.name rfl) .int (at_ 5 (by decide))) (.atL (.name rfl) .int (at_ 6 (by decide))))) (by intro _ _ q; cases q) (.cons (.tuple (.two (.atL (.name rfl) .int (at_ 7 (by decide))) (.atL (.name rfl) .int (at_ 8 (by decide))))) (by intro _ _ q; cases q) (.cons (.tuple (.two (.atL (.name rfl) .int (at_ 9 (by decide))) (.atL (.name rfl) .int (at_ 10 (by decide))))) (by intro _ _ q; cases q) (.cons (.tuple (.two (.atL (.name rfl) .int (at_ 11 (by decide))) (.atL (.name rfl) .int (at_ 12 (by decide))))) (by intro _ _ q; cases q) (.cons (.tuple (.two (.atL (.name rfl) .int (at_ 13 (by decide))) (.atL (.name rfl) .int (at_ 14 (by decide))))) (by intro _ _ q; cases q) .nil)))))))).ev (.inl rfl)) ?_
  refine Lx.cons a (Es.assignN (.list .nil) (.inl rfl)) ?_
  refine Lx.cons a (Es.assign (EvN.list .nil).ev (.inl rfl)) ?_
  refine Lx.cons a (Es.assign (EvN.list .nil).ev (.inr rfl)) ?_
  have hm : 0 ≤ gi ns 0 % 8 ∧ gi ns 0 % 8 < 8 := by omega
  have hloop := built_loop (C := C) (n := n + 3) G (.list (nums ns)) .none ((cellsOf ns).take (gi ns 0 % 8).toNat) ([], []) 0 BOk.nil (by simp [cellsOf]; omega)
  refine Lx.cons a (Es.forW (.list ((EvN.slice (.name rfl) .none (.some (.modN (.atL (.name rfl) .int (at_ 0 (by decide))) .int (by decide))) (by rw [sizeLine_eq]; simp [cellsOf])).ev.cast (d' := .list (((cellsOf ns).take (gi ns 0 % 8).toNat).map pd)) ?_)) (Sub.cons rfl (Sub.cons rfl (Sub.cons rfl (Sub.cons rfl Sub.nil)))) hloop) ?_
  · rw [show gi ns 0 % 8 = (((gi ns 0 % 8).toNat : Nat) : Int) by omega, sliceD_to, ← List.map_take]
    rw [show (((gi ns 0 % 8).toNat : Nat) : Int) = gi ns 0 % 8 by omega]
  · exact Lx.frz (x := "tokens") rfl (h.weak (Sub.cons rfl (Sub.cons rfl (Sub.cons rfl (Sub.cons rfl Sub.nil)))))

theorem seg2 (G : Gs C) (a : AOk (n + 4) A) {T : List Tok3} {x ss fr : List Int} {ws : List (Int × (Int × Int))} {M : Nat} (S : PyData) (F : Facts T x ss fr ws M) (h : Lx C (n + 4) (fs 32) A env X (L2 x ss fr S) ((fb 32).drop 12) (.bool true)) :
    Lx C (n + 4) (fs 32) A env X (L1 T x S) ((fb 32).drop 6) (.bool true) := by
  have hsse := F.sse
  subst hsse
  have htl := F.tl
  have hsl := F.ssl
  refine Lx.cons a (Es.assign (EvN.call G.list rfl (.type _) (.one (.name rfl)) (CallN.listL (by rw [sizeLine_eq]; simp; omega))).ev (.inl rfl)) ?_
  refine Lx.cons a (Es.assign (.fcall (toks_fn (n := n + 3) G T (by omega)) (.one (.name rfl))) (.inl rfl)) ?_
  refine Lx.cons a (Es.iff (b := false) (Tt.boolOp (.orF (Tt.notT (Tt.val (.fcall (same_fn (n := n + 3) G _) (.two (.name rfl) (.name rfl))))) (.orF (Tt.cmp (.name rfl) (.name rfl) (Bin.neD (lay_tds T) (depth_tds T))) .orNil))) Ex.nil) ?_
  refine Lx.cons a (Es.assignComp (rs := nums fr) (EvI.upto G .int (by decide)) (CompK.of [("stream", .list (nums (T.flatMap spell)))] (by simp only [List.mem_cons, List.not_mem_nil, or_false, forall_eq]; exact ⟨rfl, rfl, rfl, rfl⟩) rfl rfl rfl rfl) ?_ (by rw [sizeLine_eq]; simp) rfl (fun env he => by cases env; cases he; rfl)) ?_
  · rw [← F.fr2, show nums ((List.range 257).map fun k : Nat => (((T.flatMap spell).count (k : Int) : Nat) : Int)) = (List.range 257).map fun k : Nat => PyData.int (((T.flatMap spell).count (k : Int) : Nat) : Int) by simp [nums]]
    exact CompB.each (f := fun k : Nat => .int k) rfl (List.range 257) fun k _ => .count rfl (.name rfl) (by intro _ _ q; cases q)
  refine Lx.frz (x := "counts") rfl ?_
  refine Lx.cons a (Es.assign ((Ev.fcall (count_fn (n := n + 3) G (T.flatMap spell) 257 (by decide) (fun s hs => F.ssr s hs)) (.two (.name rfl) .int)).cast (d' := .list (nums fr)) (by rw [F.fr1])) (.inl rfl)) ?_
  refine Lx.cons a (Es.iff (b := false) (Tt.boolOp (.orF (Tt.notT (Tt.val (.fcall (same_fn (n := n + 3) G _) (.two (.name rfl) (.name rfl))))) (.orF (Tt.cmp (.name rfl) (.name rfl) (Bin.neD (lay_nums _) (depth_nums _))) .orNil))) Ex.nil) ?_
  exact h.weak (Sub.cons rfl (Sub.cons rfl (Sub.cons rfl (Sub.cons rfl (Sub.cons rfl (Sub.cons rfl Sub.nil))))))

def rawL (ns : List Int) : List Int := [gi ns 2, gi ns 4, gi ns 6, gi ns 8, gi ns 10]
theorem seg3 (G : Gs C) (a : AOk (n + 4) A) (ns : List Int) (hl : 20 ≤ ns.length) (hl2 : ns.length ≤ 63) {T : List Tok3} {x ss fr : List Int} {ws : List (Int × (Int × Int))} {M : Nat} (F : Facts T x ss fr ws M)
    (hraw : ∀ t r, huffF (rawL ns) = t :: r → t.sz ≤ 100000 ∧ t.ht ≤ 64) (hw : Fn C (n + 4) "_law_words" [.list ((huffF fr).map gd)] (wordsD ws))
    (h : Lx C (n + 4) (fs 32) A env X (L3 x ss ws (.list (nums ns))) ((fb 32).drop 24) (.bool true)) :
    Lx C (n + 4) (fs 32) A env X (L2 x ss fr (.list (nums ns))) ((fb 32).drop 12) (.bool true) := by
  have at_ : ∀ i : Nat, i < 20 → (nums ns)[((i : Nat) : Int).toNat]? = some (.int (gi ns i)) := fun i hi => by rw [Int.toNat_natCast]; exact nums_get (by omega)
  have hfl := F.frl
  have hr0 : (forest0 (rawL ns) (List.range (rawL ns).length) []).length < 64 := by
    have := forest0_length (rawL ns) (List.range (rawL ns).length) []
    simp [rawL] at this ⊢; omega
  refine Lx.cons a (Es.assign (.fcall (groups_fn (n := n + 3) G fr (by omega) F.frst) (.one (.name rfl))) (.inl rfl)) ?_
  refine Lx.cons a (Es.iff (b := false) (Tt.notT (Tt.val (.fcall (holds_fn G fr (by omega) (fun t r e => ⟨(F.tree t r e).1, (F.tree t r e).2.1⟩)) (.two (.name rfl) (.name rfl))))) Ex.nil) ?_
  refine Lx.cons a (Es.assign (d := .list (nums (rawL ns))) (EvN.list (.cons (.atL (.name rfl) .int (at_ 2 (by decide))) (by intro _ _ q; cases q) (.cons (.atL (.name rfl) .int (at_ 4 (by decide))) (by intro _ _ q; cases q) (.three (.atL (.name rfl) .int (at_ 6 (by decide))) (.atL (.name rfl) .int (at_ 8 (by decide))) (.atL (.name rfl) .int (at_ 10 (by decide))))))).ev (.inl rfl)) ?_
  refine Lx.cons a (Es.iff (b := false) (Tt.notT (Tt.val (.fcall (holds_fn G (rawL ns) (by simp [rawL]) hraw) (.two (.name rfl) (.fcall (groups_fn (n := n + 3) G (rawL ns) (by simp [rawL]) hr0) (.one (.name rfl))))))) Ex.nil) ?_
  refine Lx.cons a (Es.assign (.fcall hw (.one (.name rfl))) (.inr rfl)) ?_
  refine Lx.cons a (Es.assignComp (rs := (WC ws).map pd) (EvI.upto G .int (by decide)) (CompK.of [("words", wordsD ws)] (by simp only [List.mem_cons, List.not_mem_nil, or_false, forall_eq]; exact ⟨rfl, rfl, rfl, rfl⟩) rfl rfl rfl rfl) ?_ (by rw [sizeLine_eq]; simp) rfl (fun env he => by cases env; cases he; rfl)) ?_
  · rw [WC, List.map_map]
    refine CompB.each (f := fun k : Nat => .int k) rfl (List.range 257) fun k _ => ?_
    refine Ev.dictGet (dflt := pd (0, 0)) rfl (.name rfl) (.tuple (.two .int .int)) ?_ (by intro _ _ q; cases q) (by intro _ _ q; cases q)
    show ((ws.map fun p => (p.1, pd p.2)).lookup (k : Int)).getD (pd (0, 0)) = pd (wl ws (k : Int))
    have : ∀ l : List (Int × (Int × Int)), (l.map fun p => (p.1, pd p.2)).lookup (k : Int) = (l.lookup (k : Int)).map pd := by
      intro l
      induction l with
      | nil => rfl
      | cons p r ih =>
        obtain ⟨u, v⟩ := p
        simp only [List.map_cons, List.lookup_cons]
        cases (k : Int) == u <;> simp [ih]
    rw [this, wl]
    cases ws.lookup (k : Int) <;> rfl
  refine Lx.frz (x := "want_codes") rfl ?_
  refine Lx.cons a (Es.assignComp (rs := nums (WL ws)) (.list (.name rfl)) (CompK.of [] (by simp) rfl rfl rfl rfl) ?_ (by rw [sizeLine_eq]; simp [WC]) rfl (fun env he => by cases env; cases he; rfl)) ?_
  · rw [show nums (WL ws) = (WC ws).map fun p => PyData.int p.2 by simp [nums, WL, WC]]
    exact CompB.each (f := pd) rfl (WC ws) fun p _ => .atT (.name rfl) .int
  refine Lx.frz (x := "want_lengths") rfl ?_
  refine Lx.cons a (Es.assign ((Ev.fcall (lens_fn G fr (by omega) (fun t r e => ⟨(F.tree t r e).1, (F.tree t r e).2.2⟩)) (.one (.name rfl))).cast (d' := .list (nums (WL ws))) (by rw [F.lens])) (.inl rfl)) ?_
  refine Lx.cons a (Es.iff (b := false) (Tt.boolOp (.orF (Tt.notT (Tt.val (.fcall (same_fn (n := n + 3) G _) (.two (.name rfl) (.name rfl))))) (.orF (Tt.cmp (.name rfl) (.name rfl) (Bin.neD (lay_nums _) (depth_nums _))) .orNil))) Ex.nil) ?_
  refine Lx.cons a (Es.assign ((Ev.fcall (canon_fn (n := n + 3) G (WL ws) (by rw [WL_length]; omega) M F.mx F.mxall F.ml) (.one (.name rfl))).cast (d' := .list ((WC ws).map pd)) (by rw [F.can])) (.inl rfl)) ?_
  refine Lx.cons a (Es.iff (b := false) (Tt.notT ((Tt.typeIs (.name rfl) (by intro _ _ q; cases q) G.type rfl G.list rfl).cast (by rfl))) Ex.nil) ?_
  refine Lx.cons a (Es.iff (b := false) (Tt.boolOp (.orF (Tt.cmp (.name rfl) (.name rfl) (Bin.neD (lay_pds _) (depth_pds _))) (.orF (Tt.cmp (.name rfl) (.name rfl) (Bin.neD (lay_nums _) (depth_nums _))) .orNil))) Ex.nil) ?_
  exact h.weak (Sub.cons rfl (Sub.cons rfl (Sub.cons rfl (Sub.cons rfl (Sub.cons rfl (Sub.cons rfl (Sub.cons rfl (Sub.cons rfl (Sub.cons rfl Sub.nil)))))))))
end
end Sq
end

section
set_option autoImplicit false
set_option linter.unusedVariables false
open PySem PyProof.Rows
namespace Sq
def figs : List Int := [0, 1, 255, 256, 65535, 65536, 16777215, 16777216, 4278190080, 4294967295, 305419896]
def extras8 : List Int := [0, 1, 2, 97, 254, 255, 256, 7]
theorem figs_range (i : Nat) (h : i < 11) : 0 ≤ figs.getD i 0 ∧ figs.getD i 0 < 4294967296 := (show ∀ i : Nat, i < 11 → 0 ≤ figs.getD i 0 ∧ figs.getD i 0 < 4294967296 by decide) i h
theorem extras_range (i : Nat) (h : i < 8) : 0 ≤ extras8.getD i 0 ∧ extras8.getD i 0 < 257 := (show ∀ i : Nat, i < 8 → 0 ≤ extras8.getD i 0 ∧ extras8.getD i 0 < 257 by decide) i h

section
variable {C : Cx} {n : Nat} {A : Around} {env : Env} {X : HM}
theorem encOk_of {T : List Tok3} {x ss fr : List Int} {ws : List (Int × (Int × Int))} {M : Nat} (F : Facts T x ss fr ws M) {s : Int} (h0 : 0 ≤ s) (h1 : s < 257) : EncOk (WC ws) s := by
  have e := WC_at ws h0 h1
  refine ⟨h0, by rw [WC_length]; exact h1, ?_, ?_⟩
  · rw [e]
    cases q : ws.lookup s with
    | none => simp [wl, q]
    | some c => have := (F.wok s (by rw [q]; rfl)).1; omega
  · rw [e]
    cases q : ws.lookup s with
    | none => simp [wl, q]
    | some c => exact (F.wok s (by rw [q]; rfl)).2
theorem encNe_of {T : List Tok3} {x ss fr : List Int} {ws : List (Int × (Int × Int))} {M : Nat} (F : Facts T x ss fr ws M) {s : Int} (h0 : 0 ≤ s) (h1 : s < 257) (hs : (ws.lookup s).isSome = true) : (codeAt (WC ws) s).2 ≠ 0 := by
  rw [WC_at ws h0 h1]; have := (F.wok s hs).1; omega
theorem wdSome {ws : List (Int × (Int × Int))} {s : Int} : ((ws.map fun p => (p.1, pd p.2)).lookup s).isSome = (ws.lookup s).isSome := by
  induction ws with
  | nil => rfl
  | cons p r ih =>
    obtain ⟨u, v⟩ := p
    simp only [List.map_cons, List.lookup_cons]
    cases s == u
    · exact ih
    · rfl

theorem seg4 (G : Gs C) (a : AOk (n + 4) A) (ns : List Int) (hl : 20 ≤ ns.length) (hl2 : ns.length ≤ 63) {T : List Tok3} {x ss fr : List Int} {ws : List (Int × (Int × Int))} {M : Nat} (F : Facts T x ss fr ws M)
    (h : Lx C (n + 4) (fs 32) A env X (L4 ss ws (.list (nums ns))) ((fb 32).drop 41) (.bool true)) :
    Lx C (n + 4) (fs 32) A env X (L3 x ss ws (.list (nums ns))) ((fb 32).drop 24) (.bool true) := by
  have at_ : ∀ i : Nat, i < 20 → (nums ns)[((i : Nat) : Int).toNat]? = some (.int (gi ns i)) := fun i hi => by rw [Int.toNat_natCast]; exact nums_get (by omega)
  have hss : ∀ s ∈ ss, (ws.lookup s).isSome = true ∧ 0 ≤ s ∧ s < 257 := fun s hs => ⟨F.sw s hs, F.ssr s hs⟩
  obtain ⟨b1, b2, b3⟩ := F.bits ss hss
  obtain ⟨m1, m2⟩ := F.small ss hss (by have := F.ssl; omega)
  have hssl := F.ssl
  have hxl := F.xl
  generalize hst : ss.foldl (num1 ws) (0, 0) = st at b1 b2 b3 m2
  have hnum : Fn C (n + 4) "_law_number" [.list (nums ss), wordsD ws] (.tuple [.int st.1, .int (((enc (WC ws) ss).length : Nat) : Int)]) := by
    have := number_fn (n := n + 3) G ws ss fun s hs => ⟨F.sw s hs, by have := (F.wok s (F.sw s hs)).1; omega, by have := (F.wok s (F.sw s hs)).2; omega⟩
    rw [hst, b2] at this; exact this
  have hpack := F.pack
  rw [hst] at hpack
  generalize hW : (enc (WC ws) ss).length = W at hnum b3 m1 hpack
  have hB : nums (enc (WC ws) ss) = nums (digits st.1 W 1) := by rw [b3]
  refine Lx.cons a (Es.assignT (.fcall hnum (.two (.name rfl) (.name rfl))) (.cons .l (.cons .l .nil))) ?_
  refine Lx.cons a (Es.assign (.fcall (digits_fn (n := n + 3) G st.1 W 1 b1 (by omega) (by decide)) (.three (.name rfl) (.name rfl) .int)) (.inl rfl)) ?_
  refine Lx.cons a (Es.assign ((Ev.fcall (encode_fn (n := n + 2) G ss (WC ws) (by rw [WC_length]; omega) (by omega) (fun s hs => ⟨encOk_of F (F.ssr s hs).1 (F.ssr s hs).2, encNe_of F (F.ssr s hs).1 (F.ssr s hs).2 (F.sw s hs)⟩)) (.two (.name rfl) (.name rfl))).cast (d' := .list (nums (digits st.1 W 1))) (by rw [hB])) (.inl rfl)) ?_
  refine Lx.cons a (Es.iff (b := false) (Tt.boolOp (.orF (Tt.notT (Tt.val (.fcall (same_fn (n := n + 3) G _) (.two (.name rfl) (.name rfl))))) (.orF (Tt.cmp (.name rfl) (.name rfl) (Bin.neD (lay_nums _) (depth_nums _))) .orNil))) Ex.nil) ?_
  have hpad : 0 ≤ -(W : Int) % 8 ∧ -(W : Int) % 8 < 8 := by omega
  have hN2 : 0 ≤ st.1 * 2 ^ (-(W : Int) % 8).toNat := Int.mul_nonneg b1 (Int.le_of_lt (Int.pow_pos (by decide)))
  refine Lx.cons a (Es.assign (.fcall (digits_fn (n := n + 3) G (st.1 * 2 ^ (-(W : Int) % 8).toNat) ((W + 7) / 8) 8 hN2 (by omega) (by decide)) (.three (.bin (.name rfl) (.modN (.neg (.name rfl)) .int (by decide)) (Bin.shl (by omega) (by omega))) ((Ev.divN (.bin (.name rfl) .int .add) .int (by decide) (by decide)).cast (by show PyData.int _ = PyData.int _; congr 1)) .int)) (.inl rfl)) ?_
  have hbits : digits st.1 W 1 = enc (WC ws) ss := b3.symm
  refine Lx.cons a (Es.assign ((Ev.fcall (pack_fn (n := n + 2) G (digits st.1 W 1) (by rw [digits_length]; omega)) (.one (.name rfl))).cast (d' := .list (nums (digits (st.1 * 2 ^ (-(W : Int) % 8).toNat) ((W + 7) / 8) 8))) (by rw [hbits, hpack])) (.inl rfl)) ?_
  refine Lx.cons a (Es.iff (b := false) (Tt.boolOp (.orF (Tt.notT (Tt.val (.fcall (same_fn (n := n + 3) G _) (.two (.name rfl) (.name rfl))))) (.orF (Tt.cmp (.name rfl) (.name rfl) (Bin.neD (lay_nums _) (depth_nums _))) .orNil))) Ex.nil) ?_
  refine Lx.cons a (Es.assign (EvN.call G.list rfl (.type _) (.one (.name rfl)) (CallN.listL (by rw [sizeLine_eq, nums_length]; omega))).ev (.inl rfl)) ?_
  refine Lx.cons a (Es.assign (.fcall (check_fn (n := n + 3) G x) (.one (.name rfl))) (.inl rfl)) ?_
  refine Lx.cons a (Es.iff (b := false) (Tt.notT ((Tt.typeIs (.name rfl) (by intro _ _ q; cases q) G.type rfl G.int rfl).cast (by rfl))) Ex.nil) ?_
  refine Lx.cons a (Es.iff (b := false) (Tt.boolOp (.orF ((Tt.cmp (.name rfl) (.fcall (adler_fn (n := n + 3) G x (by omega) (fun b hb => by have := F.xr b hb; omega)) (.one (.name rfl))) Bin.neI).cast (by rw [F.adl]; simp)) (.orF (Tt.cmp (.name rfl) (.name rfl) (Bin.neD (lay_nums _) (depth_nums _))) .orNil))) Ex.nil) ?_
  have hwl := WL_length ws
  have hlen : ∀ (l : List Int), ((nums l).length : Int) = (l.length : Int) := fun l => by rw [nums_length]
  have hhdl : ∀ a b c, (header (WL ws) a b c).length = 271 := fun a b c => by simp [header, four, hwl]
  have hhd : ∀ a b c, (headL (WL ws) a b c).length = 271 := fun a b c => by simp [headL, digits, hwl]
  refine Lx.cons a (Es.assign (d := .list (nums (headL (WL ws) ss.length x.length (check x) ++ digits (st.1 * 2 ^ (-(W : Int) % 8).toNat) ((W + 7) / 8) 8))) ((EvN.bin (.fcall (header_fn (n := n + 2) G (WL ws) ss.length x.length (check x) (by omega)) (.four (.name rfl) ((Ev.bcall G.len (.lenL (by rw [nums_length]; omega)) (.one (.name rfl))).cast (by rw [nums_length])) ((Ev.bcall G.len (.lenL (by rw [nums_length]; omega)) (.one (.name rfl))).cast (by rw [nums_length])) (.name rfl))) (.name rfl) (BinN.cat (by rw [sizeLine_eq, nums_length, nums_length, hhdl, digits_length]; omega))).ev.cast (by rw [nums_append, header_head ⟨by omega, by omega⟩ ⟨by omega, by omega⟩ F.adlr])) (.inl rfl)) ?_
  refine Lx.cons a (Es.iff (b := false) (Tt.notT (Tt.val (.fcall (same_fn (n := n + 3) G _) (.two (.name rfl) ((EvN.bin (.fcall (head_fn (n := n + 2) G (WL ws) ss.length x.length (check x) (by omega) (by omega) (by omega) F.adlr.1) (.four (.name rfl) ((Ev.bcall G.len (.lenL (by rw [nums_length]; omega)) (.one (.name rfl))).cast (by rw [nums_length])) ((Ev.bcall G.len (.lenL (by rw [nums_length]; omega)) (.one (.name rfl))).cast (by rw [nums_length])) (.name rfl))) (.name rfl) (BinN.cat (by rw [sizeLine_eq, nums_length, nums_length, hhd, digits_length]; omega))).ev.cast (by rw [nums_append])))))) Ex.nil) ?_
  have hfig : ∀ i : Nat, 0 ≤ gi ns i % 11 ∧ gi ns i % 11 < 11 := fun i => by omega
  have hf : ∀ i : Nat, 0 ≤ figs.getD (gi ns i % 11).toNat 0 ∧ figs.getD (gi ns i % 11).toNat 0 < 4294967296 := fun i => figs_range _ (by have := hfig i; omega)
  have hfa : ∀ i : Nat, (nums figs)[(gi ns i % 11).toNat]? = some (.int (figs.getD (gi ns i % 11).toNat 0)) := fun i => nums_get (by show _ < 11; have := hfig i; omega)
  refine Lx.cons a (Es.assign (.atT (.glob G.figures) (.modN (.atL (.name rfl) .int (at_ 17 (by decide))) .int (by decide)) (hfa 17) (hfig 17).1 (by have := (hfig 17).2; omega)) (.inl rfl)) ?_
  refine Lx.cons a (Es.assign (.atT (.glob G.figures) (.modN (.atL (.name rfl) .int (at_ 18 (by decide))) .int (by decide)) (hfa 18) (hfig 18).1 (by have := (hfig 18).2; omega)) (.inl rfl)) ?_
  refine Lx.cons a (Es.assign (.atT (.glob G.figures) (.modN (.atL (.name rfl) .int (at_ 19 (by decide))) .int (by decide)) (hfa 19) (hfig 19).1 (by have := (hfig 19).2; omega)) (.inl rfl)) ?_
  refine Lx.cons a (Es.iff (b := false) (Tt.notT (Tt.val (.fcall (same_fn (n := n + 3) G (headL (WL ws) (figs.getD (gi ns 17 % 11).toNat 0) (figs.getD (gi ns 18 % 11).toNat 0) (figs.getD (gi ns 19 % 11).toNat 0))) (.two ((Ev.fcall (header_fn (n := n + 2) G (WL ws) _ _ _ (by omega)) (.four (.name rfl) (.name rfl) (.name rfl) (.name rfl))).cast (by rw [header_head (hf 17) (hf 18) (hf 19)])) (.fcall (head_fn (n := n + 2) G (WL ws) _ _ _ (by omega) (hf 17).1 (hf 18).1 (hf 19).1) (.four (.name rfl) (.name rfl) (.name rfl) (.name rfl))))))) Ex.nil) ?_
  exact h.weak (Sub.cons rfl (Sub.cons rfl (Sub.cons rfl (Sub.cons rfl (Sub.cons rfl (Sub.cons rfl (Sub.cons rfl Sub.nil)))))))

abbrev L5 (lo : List Int) (ex : Int) (ws : List (Int × (Int × Int))) : PEnv := [("longer", .val (.list (nums lo))), ("longer_twin", .val (.list (nums lo))), ("extra", .val (.int ex)), ("words", .val (wordsD ws)), ("want_codes", .val (.list ((WC ws).map pd))), ("want_lengths", .val (.list (nums (WL ws)))), ("lengths", .val (.list (nums (WL ws)))), ("codes", .val (.list ((WC ws).map pd)))]
theorem seg5 (G : Gs C) (a : AOk (n + 4) A) (ns : List Int) (hl : 20 ≤ ns.length) (hl2 : ns.length ≤ 63) {T : List Tok3} {x ss fr : List Int} {ws : List (Int × (Int × Int))} {M : Nat} (F : Facts T x ss fr ws M)
    (h : ∀ (lo : List Int) (ex : Int), (∀ s ∈ lo, s = ex ∨ s ∈ ss) → ex ∈ lo → lo.length ≤ 30 → 0 ≤ ex ∧ ex < 257 → Lx C (n + 4) (fs 32) A env X (("more", .val .none) :: ("refused", .val (.bool false)) :: L5 lo ex ws) ((fb 32).drop 47) (.bool true)) :
    Lx C (n + 4) (fs 32) A env X (L4 ss ws (.list (nums ns))) ((fb 32).drop 41) (.bool true) := by
  have at_ : ∀ i : Nat, i < 20 → (nums ns)[((i : Nat) : Int).toNat]? = some (.int (gi ns i)) := fun i hi => by rw [Int.toNat_natCast]; exact nums_get (by omega)
  have hssl := F.ssl
  have he : 0 ≤ gi ns 15 % 8 ∧ gi ns 15 % 8 < 8 := by omega
  have hcut : 0 ≤ gi ns 16 % ((ss.length : Int) + 1) ∧ gi ns 16 % ((ss.length : Int) + 1) < (ss.length : Int) + 1 := ⟨Int.emod_nonneg _ (by omega), Int.emod_lt_of_pos _ (by omega)⟩
  generalize hc : (gi ns 16 % ((ss.length : Int) + 1)) = cz at hcut
  obtain ⟨c, rfl⟩ := Int.eq_ofNat_of_zero_le hcut.1
  refine Lx.cons a (Es.assign (.atT (.glob G.extras) (.modN (.atL (.name rfl) .int (at_ 15 (by decide))) .int (by decide)) (nums_get (acc := extras8) (by show _ < 8; omega)) he.1 (by omega)) (.inl rfl)) ?_
  refine Lx.cons a (Es.assign (d := .int ((c : Nat) : Int)) ((Ev.modN (.atL (.name rfl) .int (at_ 16 (by decide))) (.bin ((Ev.bcall G.len (.lenL (by rw [nums_length]; omega)) (.one (.name rfl))).cast (d' := .int (ss.length : Int)) (by rw [nums_length])) .int .add) (by omega)).cast (by rw [hc])) (.inl rfl)) ?_
  refine Lx.cons a (Es.assign (d := .list (nums (ss.take c ++ [extras8.getD (gi ns 15 % 8).toNat 0] ++ ss.drop c))) ((EvN.bin (EvN.bin (EvN.slice (.name rfl) .none (.some (.name rfl)) (by rw [sizeLine_eq, nums_length]; omega)).ev (EvN.list (.one (.name rfl))).ev (BinN.cat ?_)).ev (EvN.slice (.name rfl) (.some (.name rfl)) .none (by rw [sizeLine_eq, nums_length]; omega)).ev (BinN.cat ?_)).ev.cast ?_) (.inl rfl)) ?_
  · rw [sliceD_to, sizeLine_eq]; simp [nums]; omega
  · rw [sliceD_to, sliceD_from, sizeLine_eq]; simp [nums]; omega
  · rw [sliceD_to, sliceD_from]; simp [nums, List.map_take, List.map_drop]
  have hlo : (ss.take c ++ [extras8.getD (gi ns 15 % 8).toNat 0] ++ ss.drop c).length ≤ 30 := by simp; omega
  refine Lx.cons a (Es.assign (EvN.call G.list rfl (.type _) (.one (.name rfl)) (CallN.listL (by rw [sizeLine_eq, nums_length]; omega))).ev (.inl rfl)) ?_
  refine Lx.cons a (Es.assign .boolC (.inl rfl)) ?_
  refine Lx.cons a (Es.assign .noneC (.inl rfl)) ?_
  refine (h (ss.take c ++ [extras8.getD (gi ns 15 % 8).toNat 0] ++ ss.drop c) (extras8.getD (gi ns 15 % 8).toNat 0) ?_ (by simp) hlo (extras_range _ (by omega))).weak (Sub.cons rfl (Sub.cons rfl (Sub.cons rfl (Sub.cons rfl (Sub.cons rfl (Sub.cons rfl (Sub.cons rfl (Sub.cons rfl (Sub.cons rfl (Sub.cons rfl Sub.nil))))))))))
  intro s hs
  simp only [List.mem_append, List.mem_singleton] at hs
  rcases hs with (hs | hs) | hs
  · exact .inr (List.mem_of_mem_take hs)
  · exact .inl hs
  · exact .inr (List.mem_of_mem_drop hs)

theorem seg7 (G : Gs C) (a : AOk (n + 4) A) (lo : List Int) (ex : Int) (ws : List (Int × (Int × Int))) : Lx C (n + 4) (fs 32) A env X (L5 lo ex ws) ((fb 32).drop 49) (.bool true) := by
  refine Lx.cons a (Es.iff (b := false) (Tt.boolOp (.orF (Tt.cmp (.name rfl) (.name rfl) (Bin.neD (lay_nums _) (depth_nums _))) (.orF (Tt.cmp (.name rfl) (.name rfl) (Bin.neD (lay_pds _) (depth_pds _))) (.orF (Tt.cmp (.name rfl) (.name rfl) (Bin.neD (lay_nums _) (depth_nums _))) .orNil)))) Ex.nil) ?_
  exact Lx.of a (Ex.ret (Es.ret .boolC))

theorem seg6 (G : Gs C) (a : AOk (n + 4) A) (hfr : A.frames = some [env]) (hf : env.frame = some env.locals) {T : List Tok3} {x ss fr : List Int} {ws : List (Int × (Int × Int))} {M : Nat} (F : Facts T x ss fr ws M) (lo : List Int) (ex : Int) (h1 : ∀ s ∈ lo, s = ex ∨ s ∈ ss) (h2 : ex ∈ lo) (h3 : lo.length ≤ 30) (h4 : 0 ≤ ex ∧ ex < 257) :
    Lx C (n + 4) (fs 32) A env X (("more", .val .none) :: ("refused", .val (.bool false)) :: L5 lo ex ws) ((fb 32).drop 47) (.bool true) := by
  have hr : ∀ s ∈ lo, 0 ≤ s ∧ s < 257 := fun s hs => by
    rcases h1 s hs with rfl | h
    · exact h4
    · exact F.ssr s h
  cases hx : ws.lookup ex with
  | some c =>
    have hall : ∀ s ∈ lo, (ws.lookup s).isSome = true ∧ 0 ≤ s ∧ s < 257 := fun s hs => by
      refine ⟨?_, hr s hs⟩
      rcases h1 s hs with rfl | h
      · rw [hx]; rfl
      · exact F.sw s h
    obtain ⟨b1, b2, b3⟩ := F.bits lo hall
    obtain ⟨m1, m2⟩ := F.small lo hall h3
    refine Lx.cons a (Es.tryOk (Ex.cons (Es.assign (.fcall (encode_fn (n := n + 2) G lo (WC ws) (by rw [WC_length]; omega) (by omega) (fun s hs => ⟨encOk_of F (hr s hs).1 (hr s hs).2, encNe_of F (hr s hs).1 (hr s hs).2 (hall s hs).1⟩)) (.two (.name rfl) (.name rfl))) (.inl rfl)) Ex.nil)) ?_
    have hnum : Fn C (n + 4) "_law_number" [.list (nums lo), wordsD ws] (.tuple [.int (lo.foldl (num1 ws) (0, 0)).1, .int (((enc (WC ws) lo).length : Nat) : Int)]) := by
      have := number_fn (n := n + 3) G ws lo fun s hs => ⟨(hall s hs).1, by have := (F.wok s (hall s hs).1).1; omega, by have := (F.wok s (hall s hs).1).2; omega⟩
      rw [b2] at this; exact this
    refine Lx.cons (ρ₁ := ("width", .val (.int (((enc (WC ws) lo).length : Nat) : Int))) :: ("number", .val (.int (lo.foldl (num1 ws) (0, 0)).1)) :: ("more", .val (.list (nums (enc (WC ws) lo)))) :: ("more", .val .none) :: ("refused", .val (.bool false)) :: L5 lo ex ws) a (Es.iff (b := true) ((Tt.cmp (.name rfl) (.name rfl) (Bin.inD (ps := ws.map fun p => (p.1, pd p.2)))).cast (by rw [wdSome, hx]; rfl)) ?_) ((seg7 G a lo ex ws).weak (Sub.cons rfl (Sub.cons rfl (Sub.cons rfl (Sub.cons rfl (Sub.cons rfl (Sub.cons rfl (Sub.cons rfl (Sub.cons rfl Sub.nil)))))))))
    refine Ex.cons (Es.iff (b := false) (Tt.val (.name rfl)) Ex.nil) ?_
    refine Ex.cons (Es.assignT (.fcall hnum (.two (.name rfl) (.name rfl))) (.cons .l (.cons .l .nil))) ?_
    refine Ex.cons (Es.iff (b := false) (Tt.notT (Tt.val (.fcall (same_fn (n := n + 3) G (enc (WC ws) lo)) (.two (.name rfl) ((Ev.fcall (digits_fn (n := n + 3) G (lo.foldl (num1 ws) (0, 0)).1 (enc (WC ws) lo).length 1 b1 (by omega) (by decide)) (.three (.name rfl) (.name rfl) .int)).cast (by rw [← b3])))))) Ex.nil) Ex.nil
  | none =>
    intro K Mh s E O I D
    obtain ⟨fa, hg, Ff⟩ := G.fns 11 (by decide)
    have hz : (codeAt (WC ws) ex).2 = 0 := by rw [WC_at ws h4.1 h4.2, wl, hx]; rfl
    refine wpAny_execs_cons (wpAny_mono (try_refused (n := n + 3) Ff rfl G.lim (encode_raises (n := n + 2) G lo (WC ws) (by rw [WC_length]; omega) (by omega) (fun s hs => encOk_of F (hr s hs).1 (hr s hs).2) ⟨ex, h2, hz⟩) hg rfl G.verr rfl rfl ?ha (List.cons_ne_nil _ _) (a := a) (O := O) (I := I) (D := D) (hfr := hfr) (hf := hf) (hout := fun e he => nomatch he)) (fun f s' p => ?_) fun _ _ x => x)
    case ha => exact .two (.name rfl) (.name rfl)
    obtain ⟨K', M', l, I', D', rfl, O'⟩ := p
    have rest : Lx C (n + 4) (fs 32) A env X (("refused", .val (.bool true)) :: ("more", .val .none) :: ("refused", .val (.bool false)) :: L5 lo ex ws) ((fb 32).drop 48) (.bool true) := by
      refine Lx.cons a (Es.iff (b := false) ((Tt.cmp (.name rfl) (.name rfl) (Bin.inD (ps := ws.map fun p => (p.1, pd p.2)))).cast (by rw [wdSome, hx]; rfl)) (Ex.cons (Es.iff (b := false) (Tt.notT (Tt.val (.name rfl))) Ex.nil) Ex.nil)) ((seg7 G a lo ex ws).weak (Sub.cons rfl (Sub.cons rfl (Sub.cons rfl (Sub.cons rfl (Sub.cons rfl (Sub.cons rfl (Sub.cons rfl (Sub.cons rfl Sub.nil)))))))))
    exact wpAny_mono (rest K' M' s' E O' I' D') (fun _ _ p => p.up l) fun _ _ x => x
end
end Sq
end

section
set_option autoImplicit false
set_option linter.unusedVariables false
namespace Sq

theorem getD_set (acc : List Int) (i k : Nat) (x : Int) (hi : i < acc.length) : (acc.set i x).getD k 0 = if k = i then x else acc.getD k 0 := by
  simp only [List.getD_eq_getElem?_getD, List.getElem?_set]
  by_cases h : i = k
  · subst h; simp [hi]
  · simp [h, Ne.symm h]
theorem list_eq_of {α : Type} (d : α) (l l' : List α) (hl : l.length = l'.length) (h : ∀ k, k < l.length → l.getD k d = l'.getD k d) : l = l' := by
  apply List.ext_getElem hl
  intro i h1 h2
  have := h i h1
  simpa [List.getD_eq_getElem?_getD, List.getElem?_eq_getElem h1, List.getElem?_eq_getElem h2] using this
theorem getD_range {α : Type} (d : α) (N : Nat) (f : Nat → α) (k : Nat) (hk : k < N) : ((List.range N).map f).getD k d = f k := by
  simp [List.getD_eq_getElem?_getD, List.getElem?_range hk]
theorem inc_getD (acc : List Int) (s : Int) (h0 : 0 ≤ s) (h1 : s < acc.length) (k : Nat) : (inc acc s).getD k 0 = acc.getD k 0 + if s = (k : Int) then 1 else 0 := by
  unfold inc
  rw [getD_set _ _ _ _ (by omega)]
  by_cases h : k = s.toNat
  · rw [if_pos h, if_pos (by omega), h]
  · rw [if_neg h, if_neg (by omega)]; omega
theorem inc_all : ∀ (ss acc : List Int), (∀ s ∈ ss, 0 ≤ s ∧ s < acc.length) → (ss.foldl inc acc).length = acc.length ∧ ∀ k : Nat, (ss.foldl inc acc).getD k 0 = acc.getD k 0 + (ss.count (k : Int) : Nat)
  | [], acc, _ => ⟨rfl, fun k => by simp⟩
  | s :: ss, acc, h => by
    obtain ⟨h0, h1⟩ := h s (List.mem_cons_self ..)
    obtain ⟨i1, i2⟩ := inc_all ss (inc acc s) fun x hx => by rw [inc_length]; exact h x (List.mem_cons_of_mem _ hx)
    refine ⟨by rw [List.foldl_cons, i1, inc_length], fun k => ?_⟩
    rw [List.foldl_cons, i2, inc_getD acc s h0 h1, List.count_cons]
    by_cases hs : s = (k : Int)
    · rw [if_pos hs, if_pos (by simpa using hs)]; omega
    · rw [if_neg hs, if_neg (by simpa using hs)]; omega
theorem counts_eqN (N : Nat) (ss : List Int) (h : ∀ s ∈ ss, 0 ≤ s ∧ s < (N : Int)) : ss.foldl inc (List.replicate N 0) = (List.range N).map fun k : Nat => ((ss.count (k : Int) : Nat) : Int) := by
  obtain ⟨h1, h2⟩ := inc_all ss (List.replicate N 0) (by simpa using h)
  refine list_eq_of 0 _ _ (by rw [h1]; simp) fun k hk => ?_
  rw [h1, List.length_replicate] at hk
  rw [h2, getD_range 0 N _ k hk]
  simp [List.getD_eq_getElem?_getD, hk]
theorem counts_eq (ss : List Int) (h : ∀ s ∈ ss, 0 ≤ s ∧ s < 257) : ss.foldl inc (List.replicate 257 0) = (List.range 257).map fun k : Nat => ((ss.count (k : Int) : Nat) : Int) := counts_eqN 257 ss h

theorem nodup_le : ∀ (l ss : List Int), l.Nodup → (∀ x ∈ l, x ∈ ss) → l.length ≤ ss.length
  | [], ss, _, _ => Nat.zero_le _
  | a :: l, ss, hn, h => by
    obtain ⟨n1, n2⟩ := List.nodup_cons.mp hn
    have ha := h a (List.mem_cons_self ..)
    have := nodup_le l (ss.erase a) n2 fun x hx => by
      have hne : x ≠ a := fun e => n1 (e ▸ hx)
      exact (List.mem_erase_of_ne hne).mpr (h x (List.mem_cons_of_mem _ hx))
    rw [List.length_erase_of_mem ha] at this
    have hp : 0 < ss.length := List.length_pos_of_mem ha
    simp only [List.length_cons]; omega

namespace Tr
def nl (t : Tr) : Nat := (t.lv 0).length
theorem lv_len : ∀ (t : Tr) (d : Int), (t.lv d).length = t.nl
  | leaf _ _, d => rfl
  | node _ _ l r, d => by
    show (l.lv (d + 1) ++ r.lv (d + 1)).length = (l.lv (0 + 1) ++ r.lv (0 + 1)).length
    rw [List.length_append, List.length_append, lv_len l, lv_len r, lv_len l, lv_len r]
theorem nl_node (w m : Int) (l r : Tr) : (node w m l r).nl = l.nl + r.nl := by
  show (l.lv 1 ++ r.lv 1).length = _
  rw [List.length_append, lv_len, lv_len]
theorem nl_pos : ∀ t : Tr, 1 ≤ t.nl
  | leaf _ _ => Nat.le_refl _
  | node w m l r => by rw [nl_node]; have := nl_pos l; omega
theorem sz_nl : ∀ t : Tr, t.sz + 1 = 2 * t.nl
  | leaf _ _ => rfl
  | node w m l r => by rw [nl_node, sz]; have := sz_nl l; have := sz_nl r; omega
theorem ht_nl : ∀ t : Tr, t.ht ≤ t.nl
  | leaf _ _ => Nat.le_refl _
  | node w m l r => by rw [nl_node, ht]; have := ht_nl l; have := ht_nl r; have := nl_pos l; have := nl_pos r; omega
theorem lv_bound : ∀ (t : Tr) (d : Int), ∀ p ∈ t.lv d, d ≤ p.2 ∧ p.2 < d + t.nl
  | leaf _ s, d, p, hp => by
    simp only [lv, List.mem_singleton] at hp
    subst hp
    refine ⟨Int.le_refl _, ?_⟩
    show d < d + ((1 : Nat) : Int)
    omega
  | node w m l r, d, p, hp => by
    simp only [lv, List.mem_append] at hp
    rw [nl_node]
    have h1 := nl_pos l
    have h2 := nl_pos r
    rcases hp with hp | hp
    · have := lv_bound l (d + 1) p hp; omega
    · have := lv_bound r (d + 1) p hp; omega
def syms (t : Tr) : List Int := (t.lv 0).map (·.1)
theorem lv_syms : ∀ (t : Tr) (d : Int), (t.lv d).map (·.1) = t.syms
  | leaf _ _, d => rfl
  | node _ _ l r, d => by
    show (l.lv (d + 1) ++ r.lv (d + 1)).map (·.1) = (l.lv (0 + 1) ++ r.lv (0 + 1)).map (·.1)
    rw [List.map_append, List.map_append, lv_syms l, lv_syms r, lv_syms l, lv_syms r]
theorem syms_node (w m : Int) (l r : Tr) : (node w m l r).syms = l.syms ++ r.syms := by
  show (l.lv 1 ++ r.lv 1).map (·.1) = _
  rw [List.map_append, lv_syms, lv_syms]
end Tr
def fsyms (F : List Tr) : List Int := F.flatMap Tr.syms
theorem fsyms_perm {F F' : List Tr} (h : F.Perm F') : (fsyms F).Perm (fsyms F') := h.flatMap_right _
theorem stepF_syms (F : List Tr) : (fsyms (stepF F)).Perm (fsyms F) := by
  match F with
  | [] => exact .refl _
  | [a] => exact .refl _
  | a :: b :: r =>
    refine (fsyms_perm (ins_perm (a.join b) r)).trans (.of_eq ?_)
    simp only [fsyms, List.flatMap_cons, Tr.join, Tr.syms_node, List.append_assoc]
theorem iterF_syms : ∀ (k : Nat) (F : List Tr), (fsyms (iterF k F)).Perm (fsyms F)
  | 0, F => .refl _
  | k + 1, F => (iterF_syms k (stepF F)).trans (stepF_syms F)
theorem iterF_length : ∀ (k : Nat) (F : List Tr), k + 1 ≤ F.length → (iterF k F).length = F.length - k
  | 0, F, _ => rfl
  | k + 1, F, h => by
    show (iterF k (stepF F)).length = _
    rw [iterF_length k (stepF F) (by rw [stepF_length (by omega)]; omega), stepF_length (by omega)]; omega
def posK (fr : List Int) : List Nat := (List.range fr.length).filter fun k => decide (0 < fr.getD k 0)
theorem forest_len (fr : List Int) : (forest0 fr (List.range fr.length) []).length = (posK fr).length := by
  rw [(forest0_perm fr _ _).length_eq]; simp [posK]
theorem forest_syms (fr : List Int) : (fsyms (forest0 fr (List.range fr.length) [])).Perm ((posK fr).map fun k : Nat => (k : Int)) := by
  refine (fsyms_perm (forest0_perm fr _ _)).trans (.of_eq ?_)
  rw [List.append_nil, fsyms, List.flatMap_map]
  show (posK fr).flatMap (fun k : Nat => [(k : Int)]) = _
  generalize posK fr = l
  induction l with
  | nil => rfl
  | cons a l ih => simp [List.flatMap_cons, ih]
structure TreeOk (fr : List Int) (t : Tr) : Prop where
  syms : t.syms.Perm ((posK fr).map fun k : Nat => (k : Int))
  nl : t.nl = (posK fr).length
theorem huff_tree (fr : List Int) {t : Tr} {r : List Tr} (h : huffF fr = t :: r) : TreeOk fr t ∧ r = [] := by
  unfold huffF at h
  cases hF : forest0 fr (List.range fr.length) [] with
  | nil => rw [hF] at h; cases h
  | cons a b =>
    have hl := iterF_length ((a :: b).length - 1) (a :: b) (by simp)
    rw [hF] at h
    rw [h] at hl
    have hr : r = [] := by simp at hl; exact hl
    subst hr
    have hs := (iterF_syms ((a :: b).length - 1) (a :: b))
    rw [h] at hs
    have h2 := forest_syms fr
    rw [hF] at h2
    have h3 : t.syms.Perm ((posK fr).map fun k : Nat => (k : Int)) := by
      have e : fsyms [t] = t.syms := by simp [fsyms]
      rw [e] at hs
      exact hs.trans h2
    refine ⟨⟨h3, ?_⟩, rfl⟩
    have := h3.length_eq
    simpa [Tr.syms, Tr.nl] using this
theorem posK_nodup (fr : List Int) : ((posK fr).map fun k : Nat => (k : Int)).Nodup := by
  have h : (posK fr).Nodup := List.nodup_range.filter _
  exact List.pairwise_map.mpr (h.imp fun hne e => hne (by omega))
theorem posK_mem (fr : List Int) (k : Nat) : k ∈ posK fr ↔ k < fr.length ∧ 0 < fr.getD k 0 := by simp [posK]
end Sq
end

section
set_option autoImplicit false
set_option linter.unusedVariables false
namespace Sq

theorem perm_sum {l l' : List Int} (h : l.Perm l') : l.sum = l'.sum := by
  induction h with
  | nil => rfl
  | cons _ _ ih => simp [ih]
  | swap a b l => simp only [List.sum_cons]; omega
  | trans _ _ h1 h2 => exact h1.trans h2
theorem two_pow_succ (k : Nat) : (2 : Int) ^ (k + 1) = 2 ^ k + 2 ^ k := by rw [Int.pow_succ]; omega

theorem kraft (D : Int) : ∀ (t : Tr) (d : Int), d + t.nl ≤ D + 1 → ((t.lv d).map fun p => (2 : Int) ^ (D - p.2).toNat).sum = 2 ^ (D - d).toNat
  | .leaf _ s, d, _ => by simp [Tr.lv]
  | .node w m l r, d, h => by
    rw [Tr.nl_node] at h
    have h1 := l.nl_pos
    have h2 := r.nl_pos
    have i1 := kraft D l (d + 1) (by omega)
    have i2 := kraft D r (d + 1) (by omega)
    rw [Tr.lv, List.map_append, List.sum_append, i1, i2]
    rw [show (D - d).toNat = (D - (d + 1)).toNat + 1 by omega, two_pow_succ]

def insP (t : Int × Int) : List (Int × Int) → List (Int × Int)
  | [] => [t]
  | o :: r => if lexB t o then t :: o :: r else o :: insP t r
theorem insP_perm (t : Int × Int) : ∀ F, (insP t F).Perm (t :: F)
  | [] => .refl _
  | o :: r => by
    unfold insP
    split
    · exact .refl _
    · exact ((insP_perm t r).cons o).trans (.swap ..)
theorem Lex.trans {a b c : Int × Int} (h : Lex a b) (h' : Lex b c) : Lex a c := by
  simp only [Lex, lexB, Bool.or_eq_true, Bool.and_eq_true, decide_eq_true_eq] at h h' ⊢; omega
theorem Lex.tot {a b : Int × Int} (h : a.2 ≠ b.2) (h' : ¬ lexB a b = true) : Lex b a := by
  simp only [Lex, lexB, Bool.or_eq_true, Bool.and_eq_true, decide_eq_true_eq] at h' ⊢; omega
theorem insP_sorted (t : Int × Int) : ∀ F : List (Int × Int), F.Pairwise Lex → (∀ o ∈ F, t.2 ≠ o.2) → (insP t F).Pairwise Lex
  | [], _, _ => List.pairwise_singleton ..
  | o :: r, h, hm => by
    obtain ⟨h1, h2⟩ := List.pairwise_cons.mp h
    unfold insP
    split
    · rename_i hl
      exact List.pairwise_cons.mpr ⟨fun x hx => by
        rcases List.mem_cons.mp hx with rfl | hx
        · exact hl
        · exact Lex.trans hl (h1 x hx), h⟩
    · rename_i hl
      refine List.pairwise_cons.mpr ⟨fun x hx => ?_, insP_sorted t r h2 fun x hx => hm x (List.mem_cons_of_mem _ hx)⟩
      rcases List.mem_cons.mp ((insP_perm t r).mem_iff.mp hx) with rfl | hx
      · exact Lex.tot (hm o (List.mem_cons_self ..)) hl
      · exact h1 x hx
theorem ord_exists : ∀ l : List (Int × Int), (l.map (·.2)).Nodup → ∃ o : List (Int × Int), o.Perm l ∧ o.Pairwise Lex
  | [], _ => ⟨[], .refl _, .nil⟩
  | q :: l, h => by
    simp only [List.map_cons, List.nodup_cons] at h
    obtain ⟨o, h1, h2⟩ := ord_exists l h.2
    refine ⟨insP q o, (insP_perm q o).trans (h1.cons q), insP_sorted q o h2 fun x hx e => h.1 ?_⟩
    exact List.mem_map.mpr ⟨x, h1.mem_iff.mp hx, e.symm⟩

theorem lookup_mem {β : Type} : ∀ (l : List (Int × β)) (k : Int) (v : β), (l.map (·.1)).Nodup → (k, v) ∈ l → l.lookup k = some v
  | p :: l, k, v, hn, hm => by
    simp only [List.map_cons, List.nodup_cons] at hn
    obtain ⟨a, b⟩ := p
    rw [List.lookup_cons]
    rcases List.mem_cons.mp hm with e | hm
    · cases e; simp
    · have hne : (k == a) = false := beq_eq_false_iff_ne.mpr fun e => hn.1 (by
        rw [← e]; exact List.mem_map.mpr ⟨(k, v), hm, rfl⟩)
      rw [hne]; exact lookup_mem l k v hn.2 hm
theorem lookup_none {β : Type} : ∀ (l : List (Int × β)) (k : Int), (∀ p ∈ l, p.1 ≠ k) → l.lookup k = none
  | [], k, _ => rfl
  | p :: l, k, h => by
    obtain ⟨a, b⟩ := p
    rw [List.lookup_cons, beq_eq_false_iff_ne.mpr (Ne.symm (h (a, b) (List.mem_cons_self ..)))]
    exact lookup_none l k fun q hq => h q (List.mem_cons_of_mem _ hq)

structure OOk (o : List (Int × Int)) : Prop where
  lo : ∀ q ∈ o, 1 ≤ q.1 ∧ q.1 ≤ 30
  rg : ∀ q ∈ o, 0 ≤ q.2 ∧ q.2 < 257
  nd : (o.map (·.2)).Nodup
  kr : (o.map fun q => (2 : Int) ^ (30 - q.1).toNat).sum ≤ 2 ^ 30

theorem words_keys (o : List (Int × Int)) : (wordsOf o).map (·.1) = o.map (·.2) := by simp [wordsOf, Function.comp_def]
theorem wl_in {o : List (Int × Int)} (O : OOk o) {q : Int × Int} (h : q ∈ o) : (wordsOf o).lookup q.2 = some (wval o q, q.1) ∧ wl (wordsOf o) q.2 = (wval o q, q.1) := by
  have := lookup_mem (wordsOf o) q.2 (wval o q, q.1) (by rw [words_keys]; exact O.nd) (List.mem_map.mpr ⟨q, h, rfl⟩)
  exact ⟨this, by rw [wl, this]; rfl⟩
theorem wl_out {o : List (Int × Int)} {k : Int} (h : ∀ q ∈ o, q.2 ≠ k) : (wordsOf o).lookup k = none ∧ wl (wordsOf o) k = (0, 0) := by
  have := lookup_none (wordsOf o) k fun p hp => by
    obtain ⟨q, hq, rfl⟩ := List.mem_map.mp hp
    exact h q hq
  exact ⟨this, by rw [wl, this]; rfl⟩
theorem wl_cases {o : List (Int × Int)} (O : OOk o) (k : Int) : (∃ q ∈ o, q.2 = k ∧ wl (wordsOf o) k = (wval o q, q.1) ∧ (wordsOf o).lookup k = some (wval o q, q.1)) ∨ ((∀ q ∈ o, q.2 ≠ k) ∧ wl (wordsOf o) k = (0, 0) ∧ (wordsOf o).lookup k = none) := by
  by_cases h : ∃ q ∈ o, q.2 = k
  · obtain ⟨q, hq, rfl⟩ := h
    exact .inl ⟨q, hq, rfl, (wl_in O hq).2, (wl_in O hq).1⟩
  · have h' : ∀ q ∈ o, q.2 ≠ k := fun q hq e => h ⟨q, hq, e⟩
    exact .inr ⟨h', (wl_out h').2, (wl_out h').1⟩

theorem setAll_get : ∀ (ps : List (Int × Int)) (acc : List Int), (ps.map (·.1)).Nodup → (∀ p ∈ ps, 0 ≤ p.1 ∧ p.1 < acc.length) → (setAll acc ps).length = acc.length ∧ ∀ k : Nat, (setAll acc ps).getD k 0 = (ps.lookup (k : Int)).getD (acc.getD k 0)
  | [], acc, _, _ => ⟨rfl, fun k => rfl⟩
  | p :: ps, acc, hn, h => by
    simp only [List.map_cons, List.nodup_cons] at hn
    obtain ⟨h0, h1⟩ := h p (List.mem_cons_self ..)
    obtain ⟨i1, i2⟩ := setAll_get ps (acc.set p.1.toNat p.2) hn.2 fun x hx => by simpa using h x (List.mem_cons_of_mem _ hx)
    refine ⟨by show (setAll (acc.set p.1.toNat p.2) ps).length = _; rw [i1]; simp, fun k => ?_⟩
    show (setAll (acc.set p.1.toNat p.2) ps).getD k 0 = _
    rw [i2, getD_set _ _ _ _ (by omega)]
    obtain ⟨a, b⟩ := p
    rw [List.lookup_cons]
    by_cases hk : (k : Int) = a
    · have hk' : k = a.toNat := by omega
      rw [if_pos hk', beq_iff_eq.mpr hk]
      rw [lookup_none ps (k : Int) fun q hq e => hn.1 (List.mem_map.mpr ⟨q, hq, e.trans hk⟩)]
      rfl
    · have hk' : k ≠ a.toNat := by simp only at h0; omega
      rw [if_neg hk', beq_eq_false_iff_ne.mpr hk]
theorem lens_ok {o L : List (Int × Int)} (O : OOk o) (hp : (o.map fun q => (q.2, q.1)).Perm L) : setAll (List.replicate 257 0) L = WL (wordsOf o) := by
  have hkeys : (L.map (·.1)).Nodup := by
    refine (hp.map (·.1)).nodup_iff.mp ?_
    rw [List.map_map]; exact O.nd
  have hmem : ∀ p ∈ L, (p.2, p.1) ∈ o := fun p hp' => by
    obtain ⟨q, hq, rfl⟩ := List.mem_map.mp (hp.mem_iff.mpr hp')
    exact hq
  obtain ⟨h1, h2⟩ := setAll_get L (List.replicate 257 0) hkeys fun p hp' => by
    rw [List.length_replicate]; exact O.rg _ (hmem p hp')
  refine list_eq_of 0 _ _ (by rw [h1, List.length_replicate, WL_length]) fun k hk => ?_
  rw [h1, List.length_replicate] at hk
  rw [h2, WL, getD_range 0 257 _ k hk]
  have e0 : (List.replicate 257 (0 : Int)).getD k 0 = 0 := by rw [List.getD_eq_getElem?_getD, List.getElem?_replicate, if_pos hk]; rfl
  rw [e0]
  rcases wl_cases O (k : Int) with ⟨q, hq, e, e2, _⟩ | ⟨h, e2, _⟩
  · rw [e2, lookup_mem L (k : Int) q.1 hkeys (hp.mem_iff.mp (List.mem_map.mpr ⟨q, hq, by rw [e]⟩))]; rfl
  · rw [e2, lookup_none L (k : Int) fun p hp' e => h _ (hmem p hp') e]; rfl

theorem wval_eq (o : List (Int × Int)) (q : Int × Int) : wval o q = (o.map fun p => if lexB p q then (2 : Int) ^ (q.1 - p.1).toNat else 0).sum := by
  unfold wval
  induction o with
  | nil => rfl
  | cons p o ih =>
    rw [List.map_cons, List.sum_cons]
    cases h : lexB p q with
    | true => rw [List.filter_cons, if_pos (by simpa using h), List.map_cons, List.sum_cons, ih]; simp
    | false => rw [List.filter_cons, if_neg (by simp [h]), ih]; simp
theorem sum_congr {o : List (Int × Int)} {f g : Int × Int → Int} (h : ∀ p ∈ o, f p = g p) : (o.map f).sum = (o.map g).sum := by rw [List.map_congr_left h]
theorem sum_zero (o : List (Int × Int)) : (o.map fun _ => (0 : Int)).sum = 0 := by
  induction o with
  | nil => rfl
  | cons p o ih => rw [List.map_cons, List.sum_cons, ih]; rfl
theorem sum_add (o : List (Int × Int)) (f g : Int × Int → Int) : (o.map fun p => f p + g p).sum = (o.map f).sum + (o.map g).sum := by
  induction o with
  | nil => rfl
  | cons p o ih => simp only [List.map_cons, List.sum_cons, ih]; omega
theorem sum_one (o : List (Int × Int)) (q : Int × Int) (hn : o.Nodup) : (o.map fun p => if p = q then (1 : Int) else 0).sum = if q ∈ o then 1 else 0 := by
  induction o with
  | nil => rfl
  | cons p o ih =>
    obtain ⟨h1, h2⟩ := List.nodup_cons.mp hn
    rw [List.map_cons, List.sum_cons, ih h2]
    by_cases h : p = q
    · subst h; rw [if_pos rfl, if_neg h1, if_pos (List.mem_cons_self ..)]; rfl
    · rw [if_neg h]
      by_cases h' : q ∈ o
      · rw [if_pos h', if_pos (List.mem_cons_of_mem _ h')]; rfl
      · rw [if_neg h', if_neg (by simp [h', Ne.symm h])]; rfl
theorem OOk.nodup {o : List (Int × Int)} (O : OOk o) : o.Nodup := List.Pairwise.of_map (·.2) (fun a b h e => h (by rw [e])) O.nd
theorem S_step {o : List (Int × Int)} (O : OOk o) (m : Int) (j : Nat) : wval o (m, ((j + 1 : Nat) : Int)) = wval o (m, (j : Int)) + if (m, (j : Int)) ∈ o then 1 else 0 := by
  rw [wval_eq, wval_eq, ← sum_one o (m, (j : Int)) O.nodup, ← sum_add]
  refine sum_congr fun p _ => ?_
  obtain ⟨a, b⟩ := p
  by_cases h : (a, b) = (m, (j : Int))
  · cases h
    have e1 : lexB (m, (j : Int)) (m, ((j + 1 : Nat) : Int)) = true := by simp [lexB]; omega
    have e2 : lexB (m, (j : Int)) (m, (j : Int)) = false := by simp [lexB]
    rw [e1, e2]; simp
  · have e : lexB (a, b) (m, ((j + 1 : Nat) : Int)) = lexB (a, b) (m, (j : Int)) := by
      have h' : ¬ (a = m ∧ b = (j : Int)) := fun ⟨x, y⟩ => h (by rw [x, y])
      rw [Bool.eq_iff_iff]
      simp only [lexB, Bool.or_eq_true, Bool.and_eq_true, decide_eq_true_eq]
      omega
    rw [e, if_neg h]; simp
theorem sum_mul2 (o : List (Int × Int)) (f : Int × Int → Int) : (o.map f).sum * 2 = (o.map fun p => f p * 2).sum := by
  induction o with
  | nil => rfl
  | cons p o ih => simp only [List.map_cons, List.sum_cons, ← ih]; omega
theorem S_double {o : List (Int × Int)} (O : OOk o) (m : Int) (h0 : 0 ≤ m) (N : Nat) (hN : ∀ q ∈ o, q.2 < (N : Int)) : wval o (m, (N : Int)) * 2 = wval o (m + 1, ((0 : Nat) : Int)) := by
  rw [wval_eq, wval_eq, sum_mul2]
  refine sum_congr fun p hp => ?_
  have h1 := (O.rg p hp).1
  have h2 := hN p hp
  have h3 := (O.lo p hp).1
  by_cases h : p.1 ≤ m
  · have e1 : lexB p (m, (N : Int)) = true := by simp only [lexB, Bool.or_eq_true, Bool.and_eq_true, decide_eq_true_eq]; omega
    have e2 : lexB p (m + 1, ((0 : Nat) : Int)) = true := by simp only [lexB, Bool.or_eq_true, Bool.and_eq_true, decide_eq_true_eq]; omega
    rw [e1, e2, if_pos rfl, if_pos rfl]
    show (2 : Int) ^ (m - p.1).toNat * 2 = 2 ^ (m + 1 - p.1).toNat
    rw [show (m + 1 - p.1).toNat = (m - p.1).toNat + 1 by omega, Int.pow_succ]
  · have e1 : lexB p (m, (N : Int)) = false := by
      rw [Bool.eq_false_iff]; simp only [lexB, ne_eq, Bool.or_eq_true, Bool.and_eq_true, decide_eq_true_eq]; omega
    have e2 : lexB p (m + 1, ((0 : Nat) : Int)) = false := by
      rw [Bool.eq_false_iff]; simp only [lexB, ne_eq, Bool.or_eq_true, Bool.and_eq_true, decide_eq_true_eq]; omega
    rw [e1, e2]; rfl
theorem S_zero {o : List (Int × Int)} (O : OOk o) (N : Nat) : wval o (0, (N : Int)) = 0 := by
  rw [wval_eq]
  rw [sum_congr (g := fun _ => 0) fun p hp => ?_]
  · exact sum_zero o
  · have h3 := (O.lo p hp).1
    have e1 : lexB p (0, (N : Int)) = false := by
      rw [Bool.eq_false_iff]; simp only [lexB, ne_eq, Bool.or_eq_true, Bool.and_eq_true, decide_eq_true_eq]; omega
    rw [e1]; rfl

theorem range_set {α : Type} (N j : Nat) (c : Nat → α) (v : α) : ((List.range N).map c).set j v = (List.range N).map fun k => if k = j then v else c k := by
  apply List.ext_getElem
  · simp
  · intro i h1 h2
    simp only [List.getElem_set, List.getElem_map, List.getElem_range]
    by_cases h : j = i
    · subst h; simp
    · simp [h, Ne.symm h]
theorem can_in {o : List (Int × Int)} (O : OOk o) (N : Nat) (ls : List Int) (hls : ls.length = N) (m : Int) (hm : ∀ k, k < N → (ls.getD k 0 = m ↔ (m, (k : Int)) ∈ o)) (c : Nat → Int × Int) : ∀ j, j ≤ N →
    (List.range j).foldl (can1 ls m) ((List.range N).map c, wval o (m, ((0 : Nat) : Int))) = ((List.range N).map fun k => if k < j ∧ ls.getD k 0 = m then (wval o (m, (k : Int)), m) else c k, wval o (m, (j : Int)))
  | 0, _ => by simp
  | j + 1, hj => by
    rw [List.range_succ, List.foldl_append, can_in O N ls hls m hm c j (by omega)]
    show can1 ls m _ j = _
    unfold can1
    by_cases h : ls.getD j 0 = m
    · rw [if_pos h, S_step O, if_pos ((hm j (by omega)).mp h), range_set]
      refine Prod.ext (List.map_congr_left fun k _ => ?_) rfl
      by_cases hk : k = j
      · subst hk; rw [if_pos rfl, if_pos ⟨by omega, h⟩]
      · rw [if_neg hk]
        by_cases hk2 : k < j ∧ ls.getD k 0 = m
        · rw [if_pos hk2, if_pos ⟨by omega, hk2.2⟩]
        · rw [if_neg hk2, if_neg (by omega)]
    · rw [if_neg h, S_step O, if_neg fun h' => h ((hm j (by omega)).mpr h')]
      refine Prod.ext (List.map_congr_left fun k _ => ?_) (by simp)
      by_cases hk2 : k < j ∧ ls.getD k 0 = m
      · rw [if_pos hk2, if_pos ⟨by omega, hk2.2⟩]
      · rw [if_neg hk2, if_neg fun ⟨x, y⟩ => hk2 ⟨by
          by_cases e : k = j
          · subst e; exact absurd y h
          · omega, y⟩]
theorem can_out {o : List (Int × Int)} (O : OOk o) (N : Nat) (hN : ∀ q ∈ o, q.2 < (N : Int)) (ls : List Int) (hls : ls.length = N) (hm : ∀ m : Int, 1 ≤ m → ∀ k, k < N → (ls.getD k 0 = m ↔ (m, (k : Int)) ∈ o)) : ∀ i : Nat,
    ((List.range i).map fun i : Nat => 1 + (i : Int)).foldl (canN ls) (List.replicate N (0, 0), 0) = ((List.range N).map fun k => if 1 ≤ ls.getD k 0 ∧ ls.getD k 0 ≤ (i : Int) then (wval o (ls.getD k 0, (k : Int)), ls.getD k 0) else (0, 0), wval o ((i : Int), (N : Int)))
  | 0 => by
    refine Prod.ext ?_ (S_zero O N).symm
    show List.replicate N ((0 : Int), (0 : Int)) = _
    apply List.ext_getElem
    · simp
    · intro k h1 h2
      simp only [List.getElem_replicate, List.getElem_map, List.getElem_range]
      rw [if_neg (by omega)]
  | i + 1 => by
    rw [List.range_succ, List.map_append, List.foldl_append, can_out O N hN ls hls hm i]
    show canN ls _ (1 + (i : Int)) = _
    unfold canN
    rw [hls]
    show (List.range N).foldl (can1 ls (1 + (i : Int))) ((List.range N).map _, wval o ((i : Int), (N : Int)) * 2) = _
    rw [S_double O (i : Int) (by omega) N hN, show (i : Int) + 1 = 1 + (i : Int) by omega, can_in O N ls hls (1 + (i : Int)) (hm _ (by omega)) _ N (Nat.le_refl _)]
    refine Prod.ext (List.map_congr_left fun k hk => ?_) (by show wval o (1 + (i : Int), (N : Int)) = wval o (((i + 1 : Nat) : Int), (N : Int)); rw [show ((i + 1 : Nat) : Int) = 1 + (i : Int) by omega])
    have hk' := List.mem_range.mp hk
    by_cases h : ls.getD k 0 = 1 + (i : Int)
    · rw [if_pos ⟨hk', h⟩, if_pos (by omega), h]
    · rw [if_neg fun x => h x.2]
      by_cases h2 : 1 ≤ ls.getD k 0 ∧ ls.getD k 0 ≤ (i : Int)
      · rw [if_pos h2, if_pos (by omega)]
      · rw [if_neg h2, if_neg (by omega)]
theorem WL_at (ws : List (Int × (Int × Int))) (k : Nat) (hk : k < 257) : (WL ws).getD k 0 = (wl ws (k : Int)).2 := getD_range 0 257 _ k hk
theorem WL_iff {o : List (Int × Int)} (O : OOk o) (m : Int) (h1 : 1 ≤ m) (k : Nat) (hk : k < 257) : (WL (wordsOf o)).getD k 0 = m ↔ (m, (k : Int)) ∈ o := by
  rw [WL_at _ k hk]
  rcases wl_cases O (k : Int) with ⟨q, hq, e, e2, _⟩ | ⟨h, e2, _⟩
  · rw [e2]
    constructor
    · intro e3
      have : q = (m, (k : Int)) := Prod.ext e3 e
      rw [← this]; exact hq
    · intro h'
      have e3 := (wl_in O h').2
      have e4 : wl (wordsOf o) (k : Int) = (wval o (m, (k : Int)), m) := e3
      rw [e2] at e4
      exact (Prod.ext_iff.mp e4).2
  · rw [e2]
    constructor
    · intro e3; exact absurd (show (0 : Int) = m from e3) (by omega)
    · intro h'; exact absurd rfl (h _ h')
theorem canon_ok {o : List (Int × Int)} (O : OOk o) (M : Nat) (hM : ∀ q ∈ o, q.1 ≤ (M : Int)) : (canon (WL (wordsOf o)) ((List.range M).map fun i : Nat => 1 + (i : Int))).1 = WC (wordsOf o) := by
  unfold canon
  have := can_out O 257 (fun q hq => (O.rg q hq).2) (WL (wordsOf o)) (WL_length _) (fun m h k hk => WL_iff O m h k hk) M
  rw [WL_length, this]
  unfold WC
  refine List.map_congr_left fun k hk => ?_
  have hk' := List.mem_range.mp hk
  rw [WL_at _ k hk']
  rcases wl_cases O (k : Int) with ⟨q, hq, e, e2, _⟩ | ⟨h, e2, _⟩
  · rw [e2]
    have h1 := (O.lo q hq).1
    have h2 := hM q hq
    rw [if_pos ⟨h1, h2⟩]
    have : q = (q.1, (k : Int)) := Prod.ext rfl e
    rw [← this]
  · rw [e2, if_neg (by simp)]

theorem sum_le (o : List (Int × Int)) (f g : Int × Int → Int) (h : ∀ p ∈ o, f p ≤ g p) : (o.map f).sum ≤ (o.map g).sum := by
  induction o with
  | nil => exact Int.le_refl _
  | cons p o ih =>
    simp only [List.map_cons, List.sum_cons]
    have := h p (List.mem_cons_self ..)
    have := ih fun x hx => h x (List.mem_cons_of_mem _ hx)
    omega
theorem sum_mulr (o : List (Int × Int)) (f : Int × Int → Int) (c : Int) : (o.map f).sum * c = (o.map fun p => f p * c).sum := by
  induction o with
  | nil => simp
  | cons p o ih => simp only [List.map_cons, List.sum_cons, ← ih, Int.add_mul]
theorem wval_lt {o : List (Int × Int)} (O : OOk o) {q : Int × Int} (hq : q ∈ o) : 0 ≤ wval o q ∧ wval o q < 2 ^ q.1.toNat := by
  have hp : ∀ e : Nat, (0 : Int) < 2 ^ e := fun e => Int.pow_pos (by decide)
  obtain ⟨q1, q2⟩ := O.lo q hq
  constructor
  · rw [wval_eq]
    have := sum_le o (fun _ => 0) (fun p => if lexB p q then (2 : Int) ^ (q.1 - p.1).toNat else 0) fun p _ => by
      split
      · exact Int.le_of_lt (hp _)
      · exact Int.le_refl _
    have z := sum_zero o
    omega
  · have h1 : wval o q * 2 ^ (30 - q.1).toNat + 2 ^ (30 - q.1).toNat ≤ 2 ^ 30 := by
      refine Int.le_trans ?_ O.kr
      rw [wval_eq, sum_mulr]
      have e : (2 : Int) ^ (30 - q.1).toNat = (o.map fun p => (if p = q then (1 : Int) else 0) * 2 ^ (30 - q.1).toNat).sum := by
        rw [← sum_mulr, sum_one o q O.nodup, if_pos hq, Int.one_mul]
      rw [e, ← sum_add, ← e]
      refine sum_le o _ _ fun p hp' => ?_
      obtain ⟨p1, p2⟩ := O.lo p hp'
      by_cases hpq : p = q
      · subst hpq
        have : lexB p p = false := by simp [lexB]
        rw [this, if_pos rfl]; simp
      · rw [if_neg hpq]
        by_cases hl : lexB p q = true
        · rw [if_pos hl]
          have hle : p.1 ≤ q.1 := by simp only [lexB, Bool.or_eq_true, Bool.and_eq_true, decide_eq_true_eq] at hl; omega
          rw [← Int.pow_add, show (q.1 - p.1).toNat + (30 - q.1).toNat = (30 - p.1).toNat by omega]; simp
        · rw [if_neg hl]; simp; exact Int.le_of_lt (hp _)
    have e30 : (2 : Int) ^ 30 = 2 ^ q.1.toNat * 2 ^ (30 - q.1).toNat := by
      rw [← Int.pow_add, show q.1.toNat + (30 - q.1).toNat = 30 by omega]
    rw [e30] at h1
    have h2 : (wval o q + 1) * 2 ^ (30 - q.1).toNat ≤ 2 ^ q.1.toNat * 2 ^ (30 - q.1).toNat := by rw [Int.add_mul, Int.one_mul]; exact h1
    have h3 := Int.le_of_mul_le_mul_right h2 (hp _)
    omega
end Sq
end

section
set_option autoImplicit false
set_option linter.unusedVariables false
namespace Sq

theorem fold_val : ∀ (b : List Int) (v : Int), b.foldl (fun v b => v * 2 + b) v = v * 2 ^ b.length + valOf b
  | [], v => by simp [valOf]
  | x :: b, v => by
    have h1 := fold_val b (v * 2 + x)
    have h2 := fold_val b (0 * 2 + x)
    have e : valOf (x :: b) = b.foldl (fun v b => v * 2 + b) (0 * 2 + x) := rfl
    rw [List.foldl_cons, h1, e, h2, List.length_cons, Int.pow_succ]
    grind
theorem val_append (a b : List Int) : valOf (a ++ b) = valOf a * 2 ^ b.length + valOf b := by
  unfold valOf
  rw [List.foldl_append, fold_val]; rfl
def B01 (b : List Int) : Prop := ∀ x ∈ b, x = 0 ∨ x = 1
theorem val_bound : ∀ b : List Int, B01 b → 0 ≤ valOf b ∧ valOf b < 2 ^ b.length
  | [], _ => by simp [valOf]
  | x :: b, h => by
    obtain ⟨h1, h2⟩ := val_bound b fun y hy => h y (List.mem_cons_of_mem _ hy)
    have e : valOf (x :: b) = x * 2 ^ b.length + valOf b := by
      have := val_append [x] b
      have e1 : valOf [x] = x := by simp [valOf]
      rw [e1] at this; exact this
    have hp : (0 : Int) < 2 ^ b.length := Int.pow_pos (by decide)
    rw [e, List.length_cons, Int.pow_succ]
    rcases h x (List.mem_cons_self ..) with rfl | rfl
    · constructor <;> omega
    · constructor <;> omega
theorem digits_val (b : List Int) (h : B01 b) : digits (valOf b) b.length 1 = b := by
  refine list_eq_of 0 _ _ (digits_length _ _ _) fun k hk => ?_
  rw [digits_length] at hk
  rw [digits, getD_range 0 b.length _ k hk]
  have hb : b = b.take k ++ (b.getD k 0 :: b.drop (k + 1)) := by
    rw [List.getD_eq_getElem?_getD, List.getElem?_eq_getElem hk]
    simp
  have hd : valOf b = (valOf (b.take k) * 2 + b.getD k 0) * 2 ^ (b.length - 1 - k) + valOf (b.drop (k + 1)) := by
    have e1 : b = (b.take k ++ [b.getD k 0]) ++ b.drop (k + 1) := by rw [List.append_assoc]; exact hb
    have e2 : valOf b = valOf ((b.take k ++ [b.getD k 0]) ++ b.drop (k + 1)) := congrArg valOf e1
    rw [e2, val_append, val_append]
    have e3 : valOf [b.getD k 0] = b.getD k 0 := by simp [valOf]
    rw [e3, List.length_drop, List.length_singleton, show b.length - (k + 1) = b.length - 1 - k by omega]
    simp
  obtain ⟨h1, h2⟩ := val_bound (b.drop (k + 1)) fun y hy => h y (List.mem_of_mem_drop hy)
  rw [List.length_drop, show b.length - (k + 1) = b.length - 1 - k by omega] at h2
  have hp : (0 : Int) < 2 ^ (b.length - 1 - k) := Int.pow_pos (by decide)
  have hq : valOf b / 2 ^ (1 * (b.length - 1 - k)) = valOf (b.take k) * 2 + b.getD k 0 := by
    rw [Nat.one_mul, hd, Int.add_comm, Int.add_mul_ediv_right _ _ (by omega), Int.ediv_eq_zero_of_lt h1 h2, Int.zero_add]
  rw [hq]
  have hx : b.getD k 0 = 0 ∨ b.getD k 0 = 1 := h _ (by rw [List.getD_eq_getElem?_getD, List.getElem?_eq_getElem hk]; simp)
  have e2 : (2 : Int) ^ 1 = 2 := rfl
  rw [e2]
  omega
theorem bits_succ (v : Int) (w : Nat) : bitsOf v (w + 1) = bitsOf (v / 2) w ++ [v % 2] := by
  unfold bitsOf
  rw [List.range_succ, List.map_append]
  congr 1
  · refine List.map_congr_left fun k hk => ?_
    have hk' := List.mem_range.mp hk
    rw [show w + 1 - 1 - k = (w - 1 - k) + 1 by omega, Int.pow_succ, Int.mul_comm, ← Int.ediv_ediv_of_nonneg (by decide : (0 : Int) ≤ 2)]
  · simp
theorem val_bits : ∀ (w : Nat) (v : Int), 0 ≤ v → v < 2 ^ w → valOf (bitsOf v w) = v
  | 0, v, h0, h1 => by
    have : v = 0 := by simp at h1; omega
    subst this; rfl
  | w + 1, v, h0, h1 => by
    rw [Int.pow_succ] at h1
    rw [bits_succ, val_append, val_bits w (v / 2) (by omega) (by omega)]
    have e3 : valOf [v % 2] = v % 2 := by simp [valOf]
    rw [e3]
    simp
    omega
theorem enc_01 (cs : List (Int × Int)) (l : List Int) : B01 (enc cs l) := by
  intro x hx
  simp only [enc, List.mem_flatMap] at hx
  obtain ⟨s, _, h⟩ := hx
  exact bitsOf_01 _ _ x h
theorem num_enc (ws : List (Int × (Int × Int))) : ∀ (l B : List Int), (∀ s ∈ l, 0 ≤ s ∧ s < 257 ∧ 0 ≤ (wl ws s).2 ∧ 0 ≤ (wl ws s).1 ∧ (wl ws s).1 < 2 ^ (wl ws s).2.toNat) →
    l.foldl (num1 ws) (valOf B, (B.length : Int)) = (valOf (B ++ enc (WC ws) l), ((B ++ enc (WC ws) l).length : Int))
  | [], B, _ => by simp [enc]
  | s :: l, B, h => by
    obtain ⟨h1, h2, h3, h4, h5⟩ := h s (List.mem_cons_self ..)
    have e : enc (WC ws) (s :: l) = bitsOf (wl ws s).1 (wl ws s).2.toNat ++ enc (WC ws) l := by
      simp only [enc, List.flatMap_cons, WC_at ws h1 h2]
    have e2 : num1 ws (valOf B, (B.length : Int)) s = (valOf (B ++ bitsOf (wl ws s).1 (wl ws s).2.toNat), ((B ++ bitsOf (wl ws s).1 (wl ws s).2.toNat).length : Int)) := by
      unfold num1
      rw [val_append, bitsOf_length, val_bits _ _ h4 h5, List.length_append, bitsOf_length]
      refine Prod.ext rfl ?_
      show (B.length : Int) + (wl ws s).2 = _
      omega
    rw [List.foldl_cons, e2, num_enc ws l _ fun x hx => h x (List.mem_cons_of_mem _ hx), e, List.append_assoc]

theorem val_zeros (b : List Int) (k : Nat) : valOf (b ++ List.replicate k 0) = valOf b * 2 ^ k := by
  rw [val_append, List.length_replicate]
  have : valOf (List.replicate k (0 : Int)) = 0 := by
    induction k with
    | zero => rfl
    | succ k ih =>
      rw [List.replicate_succ', val_append, ih]; rfl
  rw [this]; omega
theorem pack_ok (b : List Int) (h : B01 b) : packB b = digits (valOf b * 2 ^ (-(b.length : Int) % 8).toNat) ((b.length + 7) / 8) 8 := by
  refine list_eq_of 0 _ _ (by simp [packB, digits]) fun k hk => ?_
  have hk : k < (b.length + 7) / 8 := by simpa [packB] using hk
  rw [packB, digits, getD_range 0 _ _ k hk, getD_range 0 _ _ k hk, ← val_zeros, ← val_zeros]
  generalize hpad : (-(b.length : Int) % 8).toNat = pad
  generalize hm : (b.length + 7) / 8 = m at hk ⊢
  have hlen : b.length + pad = 8 * m := by omega
  have hQ : chunk b k ++ List.replicate (8 - (chunk b k).length) 0 = ((b ++ List.replicate pad 0).take (8 * k + 8)).drop (8 * k) := by
    have hcl : (chunk b k).length = min (8 * k + 8) b.length - 8 * k := by simp [chunk]
    rw [List.take_append, List.drop_append_of_le_length (by rw [List.length_take]; omega), List.take_replicate, hcl]
    unfold chunk
    congr 2
    omega
  generalize hb' : b ++ List.replicate pad 0 = b' at hQ ⊢
  have hl' : b'.length = 8 * m := by rw [← hb', List.length_append, List.length_replicate]; exact hlen
  have h01 : B01 b' := by
    intro x hx
    rw [← hb', List.mem_append] at hx
    rcases hx with hx | hx
    · exact h x hx
    · exact .inl (List.eq_of_mem_replicate hx)
  rw [hQ]
  have split : b' = (b'.take (8 * k) ++ (b'.take (8 * k + 8)).drop (8 * k)) ++ b'.drop (8 * k + 8) := by
    have e1 : b'.take (8 * k) = (b'.take (8 * k + 8)).take (8 * k) := by rw [List.take_take]; congr 1; omega
    rw [e1, List.take_append_drop, List.take_append_drop]
  have hqlen : ((b'.take (8 * k + 8)).drop (8 * k)).length = 8 := by rw [List.length_drop, List.length_take]; omega
  have hrlen : (b'.drop (8 * k + 8)).length = 8 * (m - 1 - k) := by rw [List.length_drop]; omega
  have hv : valOf b' = (valOf (b'.take (8 * k)) * 2 ^ 8 + valOf ((b'.take (8 * k + 8)).drop (8 * k))) * 2 ^ (8 * (m - 1 - k)) + valOf (b'.drop (8 * k + 8)) := by
    have e2 : valOf b' = valOf ((b'.take (8 * k) ++ (b'.take (8 * k + 8)).drop (8 * k)) ++ b'.drop (8 * k + 8)) := congrArg valOf split
    rw [e2, val_append, val_append, hqlen, hrlen]
  obtain ⟨r1, r2⟩ := val_bound (b'.drop (8 * k + 8)) fun y hy => h01 y (List.mem_of_mem_drop hy)
  rw [hrlen] at r2
  obtain ⟨q1, q2⟩ := val_bound ((b'.take (8 * k + 8)).drop (8 * k)) fun y hy => h01 y (List.mem_of_mem_take (List.mem_of_mem_drop hy))
  rw [hqlen] at q2
  have hp : (0 : Int) < 2 ^ (8 * (m - 1 - k)) := Int.pow_pos (by decide)
  have e8 : (2 : Int) ^ 8 = 256 := by decide
  have hdiv : valOf b' / 2 ^ (8 * (m - 1 - k)) = valOf (b'.take (8 * k)) * 2 ^ 8 + valOf ((b'.take (8 * k + 8)).drop (8 * k)) := by
    rw [hv, Int.add_comm, Int.add_mul_ediv_right _ _ (by omega), Int.ediv_eq_zero_of_lt r1 r2, Int.zero_add]
  rw [hdiv, e8]
  rw [e8] at q2
  omega

def wsum : List Int → Int
  | [] => 0
  | x :: xs => ((xs.length : Int) + 1) * x + wsum xs
theorem wsum_eq : ∀ xs : List Int, ((List.range xs.length).map fun k : Nat => ((xs.length : Int) - k) * xs.getD k 0).sum = wsum xs
  | [] => rfl
  | x :: xs => by
    rw [List.length_cons, List.range_succ_eq_map, List.map_cons, List.sum_cons, List.map_map, wsum, ← wsum_eq xs]
    congr 1
    · congr 1
      refine List.map_congr_left fun k _ => ?_
      show (((xs.length + 1 : Nat) : Int) - ((k + 1 : Nat) : Int)) * xs.getD k 0 = _
      rw [show (((xs.length + 1 : Nat) : Int) - ((k + 1 : Nat) : Int)) = (xs.length : Int) - k by omega]
theorem mod_of {a b c : Int} (h : a = b + 65521 * c) : a % 65521 = b % 65521 := by rw [h, Int.add_mul_emod_self_left]
theorem adl_all : ∀ (xs : List Int) (a b : Int), 0 ≤ a → a < 65521 → 0 ≤ b → b < 65521 → xs.foldl adl (a, b) = ((a + xs.sum) % 65521, (b + xs.length * a + wsum xs) % 65521)
  | [], a, b, h0, h1, h2, h3 => by
    refine Prod.ext ?_ ?_
    · show a = (a + 0) % 65521
      omega
    · show b = (b + ((0 : Nat) : Int) * a + 0) % 65521
      rw [show ((0 : Nat) : Int) * a = 0 by simp]; omega
  | x :: xs, a, b, h0, h1, h2, h3 => by
    have ha : 0 ≤ (a + x) % 65521 ∧ (a + x) % 65521 < 65521 := by omega
    have hb : 0 ≤ (b + (a + x) % 65521) % 65521 ∧ (b + (a + x) % 65521) % 65521 < 65521 := by omega
    rw [List.foldl_cons]
    show xs.foldl adl ((a + x) % 65521, (b + (a + x) % 65521) % 65521) = _
    rw [adl_all xs _ _ ha.1 ha.2 hb.1 hb.2]
    have q1 : (a + x) % 65521 = a + x - 65521 * ((a + x) / 65521) := by omega
    have q2 : (b + (a + x) % 65521) % 65521 = b + (a + x) % 65521 - 65521 * ((b + (a + x) % 65521) / 65521) := by omega
    refine Prod.ext ?_ ?_
    · refine mod_of (c := -((a + x) / 65521)) ?_
      rw [List.sum_cons]; omega
    · refine mod_of (c := -((b + (a + x) % 65521) / 65521) - ((xs.length : Int) + 1) * ((a + x) / 65521)) ?_
      rw [wsum, List.length_cons]
      rw [q2]
      generalize (b + (a + x) % 65521) / 65521 = u at *
      rw [q1]
      generalize (a + x) / 65521 = v at *
      push_cast
      grind
theorem adler_ok (xs : List Int) : check xs = adler xs := by
  unfold check adler
  rw [adl_all xs 1 0 (by decide) (by decide) (by decide) (by decide), wsum_eq]
  show (0 + (xs.length : Int) * 1 + wsum xs) % 65521 * 65536 + (1 + xs.sum) % 65521 = _
  rw [Int.zero_add, Int.mul_one]
theorem adler_range (xs : List Int) : 0 ≤ check xs ∧ check xs < 4294967296 := by
  rw [adler_ok]; unfold adler
  generalize ((xs.length : Int) + ((List.range xs.length).map fun k : Nat => ((xs.length : Int) - k) * xs.getD k 0).sum) = u
  generalize 1 + xs.sum = v
  omega
theorem bits_le {x : Int} {k : Nat} (h0 : 0 ≤ x) (h1 : x < 2 ^ k) : PySem.Builtin.Int.intBits x ≤ k := by
  unfold PySem.Builtin.Int.intBits
  by_cases h : x = 0
  · subst h; simp
  · rw [if_neg (by simpa using h)]
    have hn : x.natAbs ≠ 0 := by omega
    have hlt : x.natAbs < 2 ^ k := by
      have : ((x.natAbs : Nat) : Int) < ((2 ^ k : Nat) : Int) := by
        rw [show ((x.natAbs : Nat) : Int) = x by omega]; simpa using h1
      omega
    have := (Nat.log2_lt hn).mpr hlt
    omega
end Sq
end

section
set_option autoImplicit false
set_option linter.unusedVariables false
open PySem PyProof.Rows
namespace Sq

theorem max_exists : ∀ l : List Int, (∀ x ∈ l, 0 ≤ x) → ∃ M : Nat, (M : Int) ∈ (0 : Int) :: l ∧ ∀ j ∈ (0 : Int) :: l, j ≤ M
  | [], _ => ⟨0, by simp, by simp⟩
  | a :: l, h => by
    obtain ⟨M, h1, h2⟩ := max_exists l fun x hx => h x (List.mem_cons_of_mem _ hx)
    have ha := h a (List.mem_cons_self ..)
    by_cases hm : a ≤ M
    · refine ⟨M, ?_, fun j hj => ?_⟩
      · rcases List.mem_cons.mp h1 with e | e
        · rw [e]; exact List.mem_cons_self ..
        · exact List.mem_cons_of_mem _ (List.mem_cons_of_mem _ e)
      · rcases List.mem_cons.mp hj with rfl | hj
        · omega
        · rcases List.mem_cons.mp hj with rfl | hj
          · exact hm
          · exact h2 j (List.mem_cons_of_mem _ hj)
    · refine ⟨a.toNat, ?_, fun j hj => ?_⟩
      · rw [show ((a.toNat : Nat) : Int) = a by omega]; exact List.mem_cons_of_mem _ (List.mem_cons_self ..)
      · rcases List.mem_cons.mp hj with rfl | hj
        · omega
        · rcases List.mem_cons.mp hj with rfl | hj
          · omega
          · have := h2 j (List.mem_cons_of_mem _ hj); omega

theorem core {T : List Tok3} {x ss fr : List Int} {o : List (Int × Int)} (O : OOk o) (tl : T.length ≤ 7) (sse : T.flatMap spell = ss) (ssl : ss.length ≤ 28) (ssr : ∀ s ∈ ss, 0 ≤ s ∧ s < 257) (xl : x.length ≤ 2000) (xr : ∀ b ∈ x, 0 ≤ b ∧ b ≤ 255)
    (frl : fr.length = 257) (fr1 : ss.foldl inc (List.replicate 257 0) = fr) (fr2 : (List.range 257).map (fun k : Nat => ((ss.count (k : Int) : Nat) : Int)) = fr) (frst : (forest0 fr (List.range fr.length) []).length < 64)
    (tree : ∀ t r, huffF fr = t :: r → t.sz ≤ 100000 ∧ t.ht ≤ 64 ∧ ∀ p ∈ t.lv 0, 0 ≤ p.1 ∧ p.1 < fr.length) (lens : codeLens fr = WL (wordsOf o)) (hin : ∀ s ∈ ss, ∃ q ∈ o, q.2 = s) : ∃ M, Facts T x ss fr (wordsOf o) M := by
  have wlb : ∀ k : Int, 0 ≤ (wl (wordsOf o) k).2 ∧ (wl (wordsOf o) k).2 ≤ 30 := fun k => by
    rcases wl_cases O k with ⟨q, hq, _, e, _⟩ | ⟨_, e, _⟩
    · rw [e]; have := O.lo q hq; show 0 ≤ q.1 ∧ q.1 ≤ 30; omega
    · rw [e]; decide
  have hWL : ∀ y ∈ WL (wordsOf o), 0 ≤ y ∧ y ≤ 30 := fun y hy => by
    unfold WL at hy
    obtain ⟨k, _, rfl⟩ := List.mem_map.mp hy
    exact wlb _
  obtain ⟨M, m1, m2⟩ := max_exists (WL (wordsOf o)) fun y hy => (hWL y hy).1
  have hsome : ∀ s : Int, ((wordsOf o).lookup s).isSome = true → ∃ q ∈ o, q.2 = s ∧ wl (wordsOf o) s = (wval o q, q.1) := fun s hs => by
    rcases wl_cases O s with ⟨q, hq, e, e2, _⟩ | ⟨_, _, e⟩
    · exact ⟨q, hq, e, e2⟩
    · rw [e] at hs; cases hs
  have hcond : ∀ l : List Int, (∀ s ∈ l, ((wordsOf o).lookup s).isSome = true ∧ 0 ≤ s ∧ s < 257) → ∀ s ∈ l, 0 ≤ s ∧ s < 257 ∧ 0 ≤ (wl (wordsOf o) s).2 ∧ 0 ≤ (wl (wordsOf o) s).1 ∧ (wl (wordsOf o) s).1 < 2 ^ (wl (wordsOf o) s).2.toNat := fun l hl s hs => by
    obtain ⟨h1, h2, h3⟩ := hl s hs
    obtain ⟨q, hq, e, e2⟩ := hsome s h1
    have := wval_lt O hq
    have h4 := (wlb s).1
    rw [e2] at h4 ⊢
    exact ⟨h2, h3, h4, this⟩
  have hnum : ∀ l : List Int, (∀ s ∈ l, ((wordsOf o).lookup s).isSome = true ∧ 0 ≤ s ∧ s < 257) → l.foldl (num1 (wordsOf o)) (0, 0) = (valOf (enc (WC (wordsOf o)) l), ((enc (WC (wordsOf o)) l).length : Int)) := fun l hl => by
    have := num_enc (wordsOf o) l [] (hcond l hl)
    simpa [valOf] using this
  have hlen : ∀ l : List Int, (∀ s ∈ l, 0 ≤ s ∧ s < 257) → (enc (WC (wordsOf o)) l).length ≤ 30 * l.length := by
    intro l
    induction l with
    | nil => intro _; simp [enc]
    | cons s l ih =>
      intro h
      have h1 := ih fun y hy => h y (List.mem_cons_of_mem _ hy)
      obtain ⟨h2, h3⟩ := h s (List.mem_cons_self ..)
      have e : enc (WC (wordsOf o)) (s :: l) = bitsOf (wl (wordsOf o) s).1 (wl (wordsOf o) s).2.toNat ++ enc (WC (wordsOf o)) l := by
        simp only [enc, List.flatMap_cons, WC_at (wordsOf o) h2 h3]
      rw [e, List.length_append, bitsOf_length, List.length_cons]
      have := (wlb s).2
      omega
  have hsw : ∀ s ∈ ss, ((wordsOf o).lookup s).isSome = true := fun s hs => by
    obtain ⟨q, hq, rfl⟩ := hin s hs
    rw [(wl_in O hq).1]; rfl
  have hss : ∀ s ∈ ss, ((wordsOf o).lookup s).isSome = true ∧ 0 ≤ s ∧ s < 257 := fun s hs => ⟨hsw s hs, ssr s hs⟩
  refine ⟨M, { tl := tl, sse := sse, ssl := ssl, ssr := ssr, xl := xl, xr := xr, frl := frl, fr1 := fr1, fr2 := fr2, frst := frst, tree := tree, lens := lens, mx := m1, mxall := m2, ml := ?_, can := ?_, wok := ?_, sw := hsw, bits := ?_, small := ?_, pack := ?_, adl := adler_ok x, adlr := adler_range x }⟩
  · rcases List.mem_cons.mp m1 with e | e
    · omega
    · have := (hWL _ e).2; omega
  · refine canon_ok O M fun q hq => ?_
    have h1 := O.rg q hq
    refine m2 q.1 (List.mem_cons_of_mem _ ?_)
    unfold WL
    refine List.mem_map.mpr ⟨q.2.toNat, List.mem_range.mpr (by omega), ?_⟩
    rw [show ((q.2.toNat : Nat) : Int) = q.2 by omega, (wl_in O hq).2]
  · intro s hs
    obtain ⟨q, hq, e, e2⟩ := hsome s hs
    rw [e2]; exact O.lo q hq
  · intro l hl
    rw [hnum l hl]
    exact ⟨(val_bound _ (enc_01 _ _)).1, rfl, (digits_val _ (enc_01 _ _)).symm⟩
  · intro l hl h30
    have h1 := hlen l fun s hs => (hl s hs).2
    have h900 : (enc (WC (wordsOf o)) l).length ≤ 900 := by omega
    refine ⟨h900, ?_⟩
    rw [hnum l hl]
    obtain ⟨v1, v2⟩ := val_bound _ (enc_01 (WC (wordsOf o)) l)
    have := bits_le v1 v2
    show Builtin.Int.intBits (valOf (enc (WC (wordsOf o)) l)) ≤ 1000
    omega
  · rw [hnum ss hss]
    exact pack_ok _ (enc_01 _ _)

theorem fact_all (ns : List Int) : ∃ (fr : List Int) (ws : List (Int × (Int × Int))) (M : Nat), Facts (built ns).1 (built ns).2 ((built ns).1.flatMap spell) fr ws M ∧ ∀ (C : Cx) (n : Nat), Gs C → Fn C (n + 4) "_law_words" [.list ((huffF fr).map gd)] (wordsD ws) := by
  have hB : BOk (built ns) (0 + ((cellsOf ns).take (gi ns 0 % 8).toNat).length) := BOk.all _ _ 0 BOk.nil (by simp [cellsOf]; omega)
  have hcl : ((cellsOf ns).take (gi ns 0 % 8).toNat).length ≤ 7 := by simp [cellsOf]; omega
  have tl : (built ns).1.length ≤ 7 := by rw [hB.len]; omega
  have hsp : ∀ l : List Tok3, (l.flatMap spell).length ≤ 4 * l.length := by
    intro l
    induction l with
    | nil => simp
    | cons a l ih => simp only [List.flatMap_cons, List.length_append, List.length_cons]; have := spell_length a; omega
  generalize hss : (built ns).1.flatMap spell = ss
  have ssl : ss.length ≤ 28 := by have := hsp (built ns).1; rw [hss] at this; omega
  have ssr : ∀ s ∈ ss, 0 ≤ s ∧ s < 257 := by rw [← hss]; exact hB.sr
  have xl : (built ns).2.length ≤ 2000 := by have := hB.xl; omega
  have xr := hB.xr
  have hfr1 := counts_eq ss ssr
  generalize hfr : (List.range 257).map (fun k : Nat => ((ss.count (k : Int) : Nat) : Int)) = fr at hfr1
  have frl : fr.length = 257 := by rw [← hfr, List.length_map, List.length_range]
  have fget : ∀ k : Nat, k < 257 → fr.getD k 0 = ((ss.count (k : Int) : Nat) : Int) := fun k hk => by rw [← hfr]; exact getD_range 0 257 _ k hk
  have posmem : ∀ k : Nat, k ∈ posK fr → (k : Int) ∈ ss := fun k hk => by
    obtain ⟨h1, h2⟩ := (posK_mem fr k).mp hk
    rw [fget k (by omega)] at h2
    exact List.count_pos_iff.mp (by omega)
  have memposK : ∀ s ∈ ss, s.toNat ∈ posK fr := fun s hs => by
    have h1 := ssr s hs
    refine (posK_mem fr _).mpr ⟨by omega, ?_⟩
    rw [fget _ (by omega), show ((s.toNat : Nat) : Int) = s by omega]
    have := List.count_pos_iff.mpr hs
    omega
  have plen : (posK fr).length ≤ 28 := by
    have := nodup_le ((posK fr).map fun k : Nat => (k : Int)) ss (posK_nodup fr) fun y hy => by
      obtain ⟨k, hk, rfl⟩ := List.mem_map.mp hy
      exact posmem k hk
    rw [List.length_map] at this; omega
  have frst : (forest0 fr (List.range fr.length) []).length < 64 := by rw [forest_len]; omega
  have treeb : ∀ t r, huffF fr = t :: r → t.nl ≤ 28 ∧ (∀ p ∈ t.lv 0, 0 ≤ p.1 ∧ p.1 < fr.length) := fun t r e => by
    obtain ⟨h1, _⟩ := huff_tree fr e
    refine ⟨by rw [h1.nl]; exact plen, fun p hp => ?_⟩
    have : p.1 ∈ t.syms := List.mem_map_of_mem hp
    obtain ⟨k, hk, e2⟩ := List.mem_map.mp (h1.syms.mem_iff.mp this)
    have := ((posK_mem fr k).mp hk).1
    rw [← e2]; omega
  have tree : ∀ t r, huffF fr = t :: r → t.sz ≤ 100000 ∧ t.ht ≤ 64 ∧ ∀ p ∈ t.lv 0, 0 ≤ p.1 ∧ p.1 < fr.length := fun t r e => by
    obtain ⟨h1, h2⟩ := treeb t r e
    have := t.sz_nl
    have := t.ht_nl
    exact ⟨by omega, by omega, h2⟩
  cases hh : huffF fr with
  | nil =>
    have hp : posK fr = [] := by
      have h0 : forest0 fr (List.range fr.length) [] = [] := by
        cases hF : forest0 fr (List.range fr.length) [] with
        | nil => rfl
        | cons a b =>
          have hl := iterF_length ((a :: b).length - 1) (a :: b) (by simp)
          unfold huffF at hh
          rw [hF] at hh
          rw [hh] at hl; simp at hl
      have := forest_len fr
      rw [h0] at this
      exact List.length_eq_zero_iff.mp this.symm
    have hnil : ∀ s ∈ ss, False := fun s hs => by have := memposK s hs; rw [hp] at this; cases this
    have O : OOk [] := ⟨by simp, by simp, by simp, by simp⟩
    have lens : codeLens fr = WL (wordsOf []) := by
      unfold codeLens
      rw [hh, frl]
      exact lens_ok (L := []) O (by simp)
    obtain ⟨M, F⟩ := core (T := (built ns).1) (x := (built ns).2) O tl hss ssl ssr xl xr frl hfr1 hfr frst (fun t r e => by rw [hh] at e; cases e) lens (fun s hs => (hnil s hs).elim)
    exact ⟨fr, wordsOf [], M, F, fun C n G => by rw [hh]; exact words_fn0 G⟩
  | cons t r =>
    obtain ⟨tok, hr⟩ := huff_tree fr hh
    subst hr
    obtain ⟨hnl, hrg⟩ := treeb t [] hh
    have hsn : t.syms.Nodup := tok.syms.nodup_iff.mpr (posK_nodup fr)
    have hkn : (((t.lv 0).map fun p => (p.2, p.1)).map (·.2)).Nodup := by rw [List.map_map]; exact hsn
    obtain ⟨ord, hp, hs⟩ := ord_exists _ hkn
    have hlv := t.lv_bound 0
    have hin : ∀ s ∈ ss, s ∈ t.syms := fun s hs' => by
      have h1 := memposK s hs'
      refine tok.syms.mem_iff.mpr (List.mem_map.mpr ⟨s.toNat, h1, ?_⟩)
      have := ssr s hs'; omega
    have hwords : ∀ (C : Cx) (n : Nat), Gs C → Fn C (n + 4) "_law_words" [.list ([t].map gd)] (wordsD (wordsOf (ord1 ord))) := fun C n G =>
      words_fn (n := n + 3) G t [] ord (by simp) hp hs hsn (by show t.nl < 64; omega) fun p hp' => by have := hlv p hp'; omega
    cases t with
    | leaf w s =>
      have e : ord = [(0, s)] := by
        have : ord.Perm [(0, s)] := hp
        exact List.perm_singleton.mp this
      have hs0 := hrg (s, 0) (by simp [Tr.lv])
      have O : OOk (ord1 ord) := by
        rw [e]
        refine ⟨?_, ?_, ?_, ?_⟩
        · intro q hq; simp only [ord1, List.mem_singleton] at hq; subst hq; exact ⟨Int.le_refl _, (by decide : (1 : Int) ≤ 30)⟩
        · intro q hq; simp only [ord1, List.mem_singleton] at hq; subst hq; rw [frl] at hs0; exact hs0
        · simp [ord1]
        · simp [ord1]
      have lens : codeLens fr = WL (wordsOf (ord1 ord)) := by
        unfold codeLens
        rw [hh, frl]
        exact lens_ok (L := [(s, 1)]) O (by rw [e]; exact .refl _)
      obtain ⟨M, F⟩ := core (T := (built ns).1) (x := (built ns).2) O tl hss ssl ssr xl xr frl hfr1 hfr frst tree lens (fun y hy => by
        have h1 : y ∈ [s] := hin y hy
        rw [e]
        exact ⟨(1, s), List.mem_cons_self .., (List.mem_singleton.mp h1).symm⟩)
      exact ⟨fr, wordsOf (ord1 ord), M, F, fun C n G => by rw [hh]; exact hwords C n G⟩
    | node w m a b =>
      have h2 : 2 ≤ ord.length := by
        have h1 := hp.length_eq
        rw [List.length_map] at h1
        have h3 : ((Tr.node w m a b).lv 0).length = (Tr.node w m a b).nl := rfl
        rw [h3, Tr.nl_node] at h1
        have := a.nl_pos; have := b.nl_pos
        omega
      have e : ord1 ord = ord := by
        match ord, h2 with
        | q1 :: q2 :: o, _ => rfl
      have hmem : ∀ q ∈ ord, (q.2, q.1) ∈ (Tr.node w m a b).lv 0 := fun q hq => by
        obtain ⟨p, hp', rfl⟩ := List.mem_map.mp (hp.mem_iff.mp hq)
        exact hp'
      have hlv1 : ∀ p ∈ (Tr.node w m a b).lv 0, 1 ≤ p.2 := fun p hp' => by
        have : p ∈ a.lv (0 + 1) ++ b.lv (0 + 1) := hp'
        rcases List.mem_append.mp this with h | h
        · have := a.lv_bound _ p h; omega
        · have := b.lv_bound _ p h; omega
      have O : OOk (ord1 ord) := by
        rw [e]
        refine ⟨fun q hq => ?_, fun q hq => ?_, ?_, ?_⟩
        · have h1 := hlv1 _ (hmem q hq)
          have h3 := hlv _ (hmem q hq)
          simp only at h1 h3
          omega
        · have h1 := hrg _ (hmem q hq)
          rw [frl] at h1; exact h1
        · exact (hp.map (·.2)).nodup_iff.mpr hkn
        · have hk := kraft 30 (Tr.node w m a b) 0 (by omega)
          have h1 := perm_sum (hp.map fun q : Int × Int => (2 : Int) ^ (30 - q.1).toNat)
          rw [List.map_map] at h1
          have h3 : (((Tr.node w m a b).lv 0).map ((fun q : Int × Int => (2 : Int) ^ (30 - q.1).toNat) ∘ fun p => (p.2, p.1))).sum = 2 ^ (30 - (0 : Int)).toNat := hk
          rw [h1, h3]; decide
      have lens : codeLens fr = WL (wordsOf (ord1 ord)) := by
        unfold codeLens
        rw [hh, frl]
        refine lens_ok (L := (Tr.node w m a b).lv 0) O ?_
        rw [e]
        have := hp.map fun q : Int × Int => (q.2, q.1)
        rw [List.map_map] at this
        have e2 : ((fun q : Int × Int => (q.2, q.1)) ∘ fun p : Int × Int => (p.2, p.1)) = id := rfl
        rw [e2, List.map_id] at this
        exact this
      obtain ⟨M, F⟩ := core (T := (built ns).1) (x := (built ns).2) O tl hss ssl ssr xl xr frl hfr1 hfr frst tree lens (fun y hy => by
        obtain ⟨p, hp', rfl⟩ := List.mem_map.mp (hin y hy)
        rw [e]
        exact ⟨(p.2, p.1), hp.mem_iff.mpr (List.mem_map.mpr ⟨p, hp', rfl⟩), rfl⟩)
      exact ⟨fr, wordsOf (ord1 ord), M, F, fun C n G => by rw [hh]; exact hwords C n G⟩

theorem raw_ok (ns : List Int) : ∀ t r, huffF (rawL ns) = t :: r → t.sz ≤ 100000 ∧ t.ht ≤ 64 := fun t r e => by
  obtain ⟨h1, _⟩ := huff_tree (rawL ns) e
  have h2 : (posK (rawL ns)).length ≤ 5 := by
    unfold posK
    refine Nat.le_trans (List.length_filter_le _ _) ?_
    rw [List.length_range]; exact Nat.le_refl _
  have := t.sz_nl
  have := t.ht_nl
  have := h1.nl
  omega

theorem law_wp {C : Cx} (G : Gs C) {fa : Addr} (F : FnAt C fa (fp 32) (fb 32) (fs 32)) (ns : List Int) (hl : ns.length ≤ 63) {K Y : HM} {v : Value} {A : Around} {s : Shared} {E : Value → Shared → Prop} (r : Rep K v (.list (nums ns))) (a : AOk 12 A) (hfr : A.frames = some []) (I : Inv C K Y s) : wpAny C.md A (call (.ref fa) [v]) (Post C K Y (.bool true)) E s := by
  refine call_fn (n := 11) F (ds := [.list (nums ns)]) rfl G.lim (.one r) a I fun env M s₁ a₁ O _ hf I₁ D => ?_
  have main : Lx C 11 (fs 32) (A.deeper env) env Y (params (fp 32) [.list (nums ns)]) (fb 32) (.bool true) := by
    by_cases h20 : 20 ≤ ns.length
    · obtain ⟨fr, ws, M', Fa, hw⟩ := fact_all ns
      exact seg1 (n := 7) G a₁ ns h20 hl (seg2 G a₁ _ Fa (seg3 G a₁ ns h20 hl Fa (raw_ok ns) (hw C 7 G) (seg4 G a₁ ns h20 hl Fa (seg5 G a₁ ns h20 hl Fa fun lo ex h1 h2 h3 h4 => seg6 G a₁ (Around.frames_deeper hfr) hf Fa lo ex h1 h2 h3 h4))))
    · exact Lx.of a₁ (Ex.ret (Es.iff (b := true) ((Tt.cmp (.bcall G.len (.lenL (by rw [nums_length]; omega)) (.one (.name rfl))) .int Bin.lt).cast (by rw [nums_length]; simp; omega)) (Ex.ret (Es.ret .boolC))))
  refine wpAny_mono (main K M s₁ _ O I₁ D) (fun fl s' p => ?_) fun _ _ x => x
  obtain ⟨K', M', l, I', D', v', rfl, rv⟩ := p
  refine ⟨K', l, I'.less fun b o e => ?_, rv⟩
  have hn : M' b = none := by
    cases q : M' b with
    | none => rfl
    | some o' => have := D' b o' q; rw [e] at this; cases this
  rw [HM.join_right hn]; exact e
end Sq
end

open PySem PySem.W PyProof.Rows
namespace Sq
noncomputable def view : Program := { PySem.Challenge.rw_sx_vsqueeze_7.row.prog with main := { PySem.Challenge.rw_sx_vsqueeze_7.row.prog.main with body := (PySem.Challenge.rw_sx_vsqueeze_7.row.prog.main.body.take 16).drop 1 ++ PySem.Challenge.rw_sx_vsqueeze_7.row.prog.main.body.drop 17 } }
end Sq
local macro_rules
  | `(tactic| o_head $H) => `(tactic| (
    refine PySem.W.holds_open (r := PySem.Challenge.rw_sx_vsqueeze_7.row) (q := Sq.view) (loose := []) (Xt := fun s => xlAt Sq.view [] s && recOk (RowW.records (OpenRow.toRowW PySem.Challenge.rw_sx_vsqueeze_7.row)) s) (XP := XL Sq.view []) (Yf := Hook.obs $H) (Ya := Hook.val $H) (YP := Hook.says $H) (N := 1982) ?_ (Hook.of $H) (Hook.keeps $H) (fun s e => xl_of s (Bool.and_eq_true_iff.mp e).1) XL.keeps (by rfl) (by rfl) (by rfl) (fun s e => recFacts_of (Bool.and_eq_true_iff.mp e).2) (by rfl) (by first | assumption | decide +kernel) (by decide +kernel) ⟨rfl, rfl, rfl, rfl, rfl, by decide +kernel⟩ ?_ ?_))
set_option maxRecDepth 100000 in
set_option maxHeartbeats 8000000 in
theorem PySem.Challenge.cw_sx_vsqueeze_7_holds : PySem.Challenge.rw_sx_vsqueeze_7.Holds := by
  w_on
  o_law
  k_head
  · intro w; kernel_rfl
  · w_witness2
  (try (rename_i x9; clear x9))
  k_fill
  intro w s₀ s₁ mg mb G Y fa o pm cd doc dV kV ho hd hcd hD hmg hg args vals as hpre hlay hrd hwl hlo
  have KX := kIn_of Y
  refine Ground.open G ?_
  intro T B D TE TW
  clear D TE TW hD hcd
  have hmg' : mg "law" = some (.ref fa) := hmg
  clear hmg
  wrow_args hpre hlay hrd hwl hlo
  rename_i ns hs1 hs2 hs3 hs4 hs5 as1 as2 l vs as3 hL ra hW r0 hI hr hlen htrue
  let C := Sq.topC PySem.Challenge.rw_sx_vsqueeze_7.row.prog w s₁ 144
  have hk : ∀ a o, a ≠ 144 → s₁.heap.get? a = some o → C.K0 a = some o := fun a o h1 h2 => Sq.topC_get h1 h2
  have hes := KX 3 _ rfl
  obtain ⟨o3, es3, ep3, h3, hd3, hk3, hf3⟩ := T.g
  have e3 := Option.some.inj (h3.symm.trans hes)
  have hG : Sq.NsIn C.K0 mainGlobals mg := ⟨_, es3, ep3, hk 3 _ (by decide) h3, hd3, hk3, hf3⟩
  rw [e3] at hd3
  injection hd3 with hd4 hd5
  have hM : ∀ x v, nsFind es3 x = some v → mg x = some v := fun x v e => (hf3 x).symm.trans e
  have hN : ∀ x, nsFind es3 x = none → mg x = none := fun x e => (hf3 x).symm.trans e
  rw [← hd4] at hM hN
  have hB : Sq.NsIn C.K0 builtinsNs mb := by
    obtain ⟨o, es, ep, h1, r⟩ := T.b
    exact ⟨o, es, ep, hk _ _ (by decide) h1, r⟩
  have gb : ∀ x v, mg x = none → mb x = some v → Sq.GlobV C x v := fun x v h1 h2 => Sq.GlobV.builtin hG hB h1 h2
  have hlim : ∃ mc, Sq.NsIn C.K0 cStatics mc ∧ mc "sys.recursionlimit" = none := by
    obtain ⟨mc, ⟨o, es, ep, h1, r⟩, h2⟩ := T.nolimit
    exact ⟨mc, ⟨o, es, ep, hk _ _ (by decide) h1, r⟩, h2⟩
  have f1 : ∃ a, Sq.GlobV C (Sq.fn 1) (.ref a) ∧ Sq.FnAt C a (Sq.fp 1) (Sq.fb 1) (Sq.fs 1) := ⟨21, Sq.GlobV.own hG (hM _ _ rfl), Sq.FnAt.of (hk 21 _ (by decide) (KX 21 _ rfl)) rfl rfl rfl rfl rfl rfl (hm := rfl) (Sq.bnd2 fun a b => rfl) rfl (hk 20 _ (by decide) (KX 20 _ rfl)) rfl rfl rfl rfl rfl (by decide) (by decide)⟩
  have f2 : ∃ a, Sq.GlobV C (Sq.fn 2) (.ref a) ∧ Sq.FnAt C a (Sq.fp 2) (Sq.fb 2) (Sq.fs 2) := ⟨28, Sq.GlobV.own hG (hM _ _ rfl), Sq.FnAt.of (hk 28 _ (by decide) (KX 28 _ rfl)) rfl rfl rfl rfl rfl rfl (hm := rfl) (Sq.bnd2 fun a b => rfl) rfl (hk 27 _ (by decide) (KX 27 _ rfl)) rfl rfl rfl rfl rfl (by decide) (by decide)⟩
  have f3 : ∃ a, Sq.GlobV C (Sq.fn 3) (.ref a) ∧ Sq.FnAt C a (Sq.fp 3) (Sq.fb 3) (Sq.fs 3) := ⟨35, Sq.GlobV.own hG (hM _ _ rfl), Sq.FnAt.of (hk 35 _ (by decide) (KX 35 _ rfl)) rfl rfl rfl rfl rfl rfl (hm := rfl) (Sq.bnd2 fun a b => rfl) rfl (hk 34 _ (by decide) (KX 34 _ rfl)) rfl rfl rfl rfl rfl (by decide) (by decide)⟩
  have f4 : ∃ a, Sq.GlobV C (Sq.fn 4) (.ref a) ∧ Sq.FnAt C a (Sq.fp 4) (Sq.fb 4) (Sq.fs 4) := ⟨42, Sq.GlobV.own hG (hM _ _ rfl), Sq.FnAt.of (hk 42 _ (by decide) (KX 42 _ rfl)) rfl rfl rfl rfl rfl rfl (hm := rfl) (Sq.bnd1 fun a => rfl) rfl (hk 41 _ (by decide) (KX 41 _ rfl)) rfl rfl rfl rfl rfl (by decide) (by decide)⟩
  have f5 : ∃ a, Sq.GlobV C (Sq.fn 5) (.ref a) ∧ Sq.FnAt C a (Sq.fp 5) (Sq.fb 5) (Sq.fs 5) := ⟨49, Sq.GlobV.own hG (hM _ _ rfl), Sq.FnAt.of (hk 49 _ (by decide) (KX 49 _ rfl)) rfl rfl rfl rfl rfl rfl (hm := rfl) (Sq.bnd1 fun a => rfl) rfl (hk 48 _ (by decide) (KX 48 _ rfl)) rfl rfl rfl rfl rfl (by decide) (by decide)⟩
  have f6 : ∃ a, Sq.GlobV C (Sq.fn 6) (.ref a) ∧ Sq.FnAt C a (Sq.fp 6) (Sq.fb 6) (Sq.fs 6) := ⟨56, Sq.GlobV.own hG (hM _ _ rfl), Sq.FnAt.of (hk 56 _ (by decide) (KX 56 _ rfl)) rfl rfl rfl rfl rfl rfl (hm := rfl) (Sq.bnd1 fun a => rfl) rfl (hk 55 _ (by decide) (KX 55 _ rfl)) rfl rfl rfl rfl rfl (by decide) (by decide)⟩
  have f7 : ∃ a, Sq.GlobV C (Sq.fn 7) (.ref a) ∧ Sq.FnAt C a (Sq.fp 7) (Sq.fb 7) (Sq.fs 7) := ⟨63, Sq.GlobV.own hG (hM _ _ rfl), Sq.FnAt.of (hk 63 _ (by decide) (KX 63 _ rfl)) rfl rfl rfl rfl rfl rfl (hm := rfl) (Sq.bnd1 fun a => rfl) rfl (hk 62 _ (by decide) (KX 62 _ rfl)) rfl rfl rfl rfl rfl (by decide) (by decide)⟩
  have f8 : ∃ a, Sq.GlobV C (Sq.fn 8) (.ref a) ∧ Sq.FnAt C a (Sq.fp 8) (Sq.fb 8) (Sq.fs 8) := ⟨68, Sq.GlobV.own hG (hM _ _ rfl), Sq.FnAt.of (hk 68 _ (by decide) (KX 68 _ rfl)) rfl rfl rfl rfl rfl rfl (hm := rfl) (Sq.bnd2 fun a b => rfl) rfl (hk 67 _ (by decide) (KX 67 _ rfl)) rfl rfl rfl rfl rfl (by decide) (by decide)⟩
  have f9 : ∃ a, Sq.GlobV C (Sq.fn 9) (.ref a) ∧ Sq.FnAt C a (Sq.fp 9) (Sq.fb 9) (Sq.fs 9) := ⟨75, Sq.GlobV.own hG (hM _ _ rfl), Sq.FnAt.of (hk 75 _ (by decide) (KX 75 _ rfl)) rfl rfl rfl rfl rfl rfl (hm := rfl) (Sq.bnd1 fun a => rfl) rfl (hk 74 _ (by decide) (KX 74 _ rfl)) rfl rfl rfl rfl rfl (by decide) (by decide)⟩
  have f10 : ∃ a, Sq.GlobV C (Sq.fn 10) (.ref a) ∧ Sq.FnAt C a (Sq.fp 10) (Sq.fb 10) (Sq.fs 10) := ⟨82, Sq.GlobV.own hG (hM _ _ rfl), Sq.FnAt.of (hk 82 _ (by decide) (KX 82 _ rfl)) rfl rfl rfl rfl rfl rfl (hm := rfl) (Sq.bnd1 fun a => rfl) rfl (hk 81 _ (by decide) (KX 81 _ rfl)) rfl rfl rfl rfl rfl (by decide) (by decide)⟩
  have f11 : ∃ a, Sq.GlobV C (Sq.fn 11) (.ref a) ∧ Sq.FnAt C a (Sq.fp 11) (Sq.fb 11) (Sq.fs 11) := ⟨89, Sq.GlobV.own hG (hM _ _ rfl), Sq.FnAt.of (hk 89 _ (by decide) (KX 89 _ rfl)) rfl rfl rfl rfl rfl rfl (hm := rfl) (Sq.bnd2 fun a b => rfl) rfl (hk 88 _ (by decide) (KX 88 _ rfl)) rfl rfl rfl rfl rfl (by decide) (by decide)⟩
  have f12 : ∃ a, Sq.GlobV C (Sq.fn 12) (.ref a) ∧ Sq.FnAt C a (Sq.fp 12) (Sq.fb 12) (Sq.fs 12) := ⟨96, Sq.GlobV.own hG (hM _ _ rfl), Sq.FnAt.of (hk 96 _ (by decide) (KX 96 _ rfl)) rfl rfl rfl rfl rfl rfl (hm := rfl) (Sq.bnd1 fun a => rfl) rfl (hk 95 _ (by decide) (KX 95 _ rfl)) rfl rfl rfl rfl rfl (by decide) (by decide)⟩
  have f13 : ∃ a, Sq.GlobV C (Sq.fn 13) (.ref a) ∧ Sq.FnAt C a (Sq.fp 13) (Sq.fb 13) (Sq.fs 13) := ⟨103, Sq.GlobV.own hG (hM _ _ rfl), Sq.FnAt.of (hk 103 _ (by decide) (KX 103 _ rfl)) rfl rfl rfl rfl rfl rfl (hm := rfl) (Sq.bnd1 fun a => rfl) rfl (hk 102 _ (by decide) (KX 102 _ rfl)) rfl rfl rfl rfl rfl (by decide) (by decide)⟩
  have f14 : ∃ a, Sq.GlobV C (Sq.fn 14) (.ref a) ∧ Sq.FnAt C a (Sq.fp 14) (Sq.fb 14) (Sq.fs 14) := ⟨110, Sq.GlobV.own hG (hM _ _ rfl), Sq.FnAt.of (hk 110 _ (by decide) (KX 110 _ rfl)) rfl rfl rfl rfl rfl rfl (hm := rfl) (Sq.bnd1 fun a => rfl) rfl (hk 109 _ (by decide) (KX 109 _ rfl)) rfl rfl rfl rfl rfl (by decide) (by decide)⟩
  have f15 : ∃ a, Sq.GlobV C (Sq.fn 15) (.ref a) ∧ Sq.FnAt C a (Sq.fp 15) (Sq.fb 15) (Sq.fs 15) := ⟨117, Sq.GlobV.own hG (hM _ _ rfl), Sq.FnAt.of (hk 117 _ (by decide) (KX 117 _ rfl)) rfl rfl rfl rfl rfl rfl (hm := rfl) (Sq.bnd4 fun a b c d => rfl) rfl (hk 116 _ (by decide) (KX 116 _ rfl)) rfl rfl rfl rfl rfl (by decide) (by decide)⟩
  have f21 : ∃ a, Sq.GlobV C (Sq.fn 21) (.ref a) ∧ Sq.FnAt C a (Sq.fp 21) (Sq.fb 21) (Sq.fs 21) := ⟨128, Sq.GlobV.own hG (hM _ _ rfl), Sq.FnAt.of (hk 128 _ (by decide) (KX 128 _ rfl)) rfl rfl rfl rfl rfl rfl (hm := rfl) (Sq.bnd3 fun a b c => rfl) rfl (hk 127 _ (by decide) (KX 127 _ rfl)) rfl rfl rfl rfl rfl (by decide) (by decide)⟩
  have f22 : ∃ a, Sq.GlobV C (Sq.fn 22) (.ref a) ∧ Sq.FnAt C a (Sq.fp 22) (Sq.fb 22) (Sq.fs 22) := ⟨135, Sq.GlobV.own hG (hM _ _ rfl), Sq.FnAt.of (hk 135 _ (by decide) (KX 135 _ rfl)) rfl rfl rfl rfl rfl rfl (hm := rfl) (Sq.bnd2 fun a b => rfl) rfl (hk 134 _ (by decide) (KX 134 _ rfl)) rfl rfl rfl rfl rfl (by decide) (by decide)⟩
  have f23 : ∃ a, Sq.GlobV C (Sq.fn 23) (.ref a) ∧ Sq.FnAt C a (Sq.fp 23) (Sq.fb 23) (Sq.fs 23) := ⟨142, Sq.GlobV.own hG (hM _ _ rfl), Sq.FnAt.of (hk 142 _ (by decide) (KX 142 _ rfl)) rfl rfl rfl rfl rfl rfl (hm := rfl) (Sq.bnd1 fun a => rfl) rfl (hk 141 _ (by decide) (KX 141 _ rfl)) rfl rfl rfl rfl rfl (by decide) (by decide)⟩
  have f24 : ∃ a, Sq.GlobV C (Sq.fn 24) (.ref a) ∧ Sq.FnAt C a (Sq.fp 24) (Sq.fb 24) (Sq.fs 24) := ⟨149, Sq.GlobV.own hG (hM _ _ rfl), Sq.FnAt.of (hk 149 _ (by decide) (KX 149 _ rfl)) rfl rfl rfl rfl rfl rfl (hm := rfl) (Sq.bnd2 fun a b => rfl) rfl (hk 148 _ (by decide) (KX 148 _ rfl)) rfl rfl rfl rfl rfl (by decide) (by decide)⟩
  have f25 : ∃ a, Sq.GlobV C (Sq.fn 25) (.ref a) ∧ Sq.FnAt C a (Sq.fp 25) (Sq.fb 25) (Sq.fs 25) := ⟨154, Sq.GlobV.own hG (hM _ _ rfl), Sq.FnAt.of (hk 154 _ (by decide) (KX 154 _ rfl)) rfl rfl rfl rfl rfl rfl (hm := rfl) (Sq.bnd1 fun a => rfl) rfl (hk 153 _ (by decide) (KX 153 _ rfl)) rfl rfl rfl rfl rfl (by decide) (by decide)⟩
  have f26 : ∃ a, Sq.GlobV C (Sq.fn 26) (.ref a) ∧ Sq.FnAt C a (Sq.fp 26) (Sq.fb 26) (Sq.fs 26) := ⟨161, Sq.GlobV.own hG (hM _ _ rfl), Sq.FnAt.of (hk 161 _ (by decide) (KX 161 _ rfl)) rfl rfl rfl rfl rfl rfl (hm := rfl) (Sq.bnd2 fun a b => rfl) rfl (hk 160 _ (by decide) (KX 160 _ rfl)) rfl rfl rfl rfl rfl (by decide) (by decide)⟩
  have f27 : ∃ a, Sq.GlobV C (Sq.fn 27) (.ref a) ∧ Sq.FnAt C a (Sq.fp 27) (Sq.fb 27) (Sq.fs 27) := ⟨166, Sq.GlobV.own hG (hM _ _ rfl), Sq.FnAt.of (hk 166 _ (by decide) (KX 166 _ rfl)) rfl rfl rfl rfl rfl rfl (hm := rfl) (Sq.bnd1 fun a => rfl) rfl (hk 165 _ (by decide) (KX 165 _ rfl)) rfl rfl rfl rfl rfl (by decide) (by decide)⟩
  have f28 : ∃ a, Sq.GlobV C (Sq.fn 28) (.ref a) ∧ Sq.FnAt C a (Sq.fp 28) (Sq.fb 28) (Sq.fs 28) := ⟨173, Sq.GlobV.own hG (hM _ _ rfl), Sq.FnAt.of (hk 173 _ (by decide) (KX 173 _ rfl)) rfl rfl rfl rfl rfl rfl (hm := rfl) (Sq.bnd2 fun a b => rfl) rfl (hk 172 _ (by decide) (KX 172 _ rfl)) rfl rfl rfl rfl rfl (by decide) (by decide)⟩
  have f29 : ∃ a, Sq.GlobV C (Sq.fn 29) (.ref a) ∧ Sq.FnAt C a (Sq.fp 29) (Sq.fb 29) (Sq.fs 29) := ⟨178, Sq.GlobV.own hG (hM _ _ rfl), Sq.FnAt.of (hk 178 _ (by decide) (KX 178 _ rfl)) rfl rfl rfl rfl rfl rfl (hm := rfl) (Sq.bnd3 fun a b c => rfl) rfl (hk 177 _ (by decide) (KX 177 _ rfl)) rfl rfl rfl rfl rfl (by decide) (by decide)⟩
  have f30 : ∃ a, Sq.GlobV C (Sq.fn 30) (.ref a) ∧ Sq.FnAt C a (Sq.fp 30) (Sq.fb 30) (Sq.fs 30) := ⟨183, Sq.GlobV.own hG (hM _ _ rfl), Sq.FnAt.of (hk 183 _ (by decide) (KX 183 _ rfl)) rfl rfl rfl rfl rfl rfl (hm := rfl) (Sq.bnd1 fun a => rfl) rfl (hk 182 _ (by decide) (KX 182 _ rfl)) rfl rfl rfl rfl rfl (by decide) (by decide)⟩
  have f31 : ∃ a, Sq.GlobV C (Sq.fn 31) (.ref a) ∧ Sq.FnAt C a (Sq.fp 31) (Sq.fb 31) (Sq.fs 31) := ⟨190, Sq.GlobV.own hG (hM _ _ rfl), Sq.FnAt.of (hk 190 _ (by decide) (KX 190 _ rfl)) rfl rfl rfl rfl rfl rfl (hm := rfl) (Sq.bnd4 fun a b c d => rfl) rfl (hk 189 _ (by decide) (KX 189 _ rfl)) rfl rfl rfl rfl rfl (by decide) (by decide)⟩
  have fns : ∀ i ∈ Sq.idx, ∃ a, Sq.GlobV C (Sq.fn i) (.ref a) ∧ Sq.FnAt C a (Sq.fp i) (Sq.fb i) (Sq.fs i) := by
    intro i hi
    simp only [Sq.idx, List.mem_cons, List.not_mem_nil, or_false] at hi
    rcases hi with rfl | rfl | rfl | rfl | rfl | rfl | rfl | rfl | rfl | rfl | rfl | rfl | rfl | rfl | rfl | rfl | rfl | rfl | rfl | rfl | rfl | rfl | rfl | rfl | rfl | rfl
    · exact f1
    · exact f2
    · exact f3
    · exact f4
    · exact f5
    · exact f6
    · exact f7
    · exact f8
    · exact f9
    · exact f10
    · exact f11
    · exact f12
    · exact f13
    · exact f14
    · exact f15
    · exact f21
    · exact f22
    · exact f23
    · exact f24
    · exact f25
    · exact f26
    · exact f27
    · exact f28
    · exact f29
    · exact f30
    · exact f31

  obtain ⟨cS, PS, hcS, hbS⟩ := based_of_top T (name := "_law_same") rfl (hM _ _ rfl) (KX 149 _ rfl) rfl
  have hP : s₁.heap.get? 144 = some { cls := .none, data := .fields #[] } ∧ s₁.heap.TableAt 148 144 #[] := by
    have e1 : cS = 148 := by injection hcS with h; exact h.symm
    subst e1
    obtain ⟨⟨oc, vc, h1, h2, h3, h4⟩, h5⟩ := hbS.tab
    have e2 := Option.some.inj (h1.symm.trans (KX 148 _ rfl))
    have h3' := h3
    rw [e2] at h3'
    injection h3' with h6
    rw [← h6] at h4
    injection h4 with h7
    injection h7 with h8
    subst h8
    exact ⟨h5, hbS.tab⟩
  have apart : ∀ a o, s₁.heap.get? a = some o → o.cls ≠ .none → a ≠ 144 := fun a o h1 h2 q => by
    rw [q, hP.1] at h1; cases h1; exact h2 rfl
  have hboot : ∀ x : Str, x ≠ "__name__" → mb x = bootBuiltins x := T.builtins
  have gs : Sq.Gs C := {
    glb := by
      obtain ⟨bm, ob, b1, b2, b3, b4, b5, b6⟩ := T.bmain
      exact ⟨mg, mb, ⟨hG, hB, hlim, bm, ob, b1, b2, hk _ _ (apart _ _ b3 (by rw [b4]; decide)) b3, b4, b5, b6⟩, ⟨hN _ rfl, (hboot _ (by decide)).trans (by decide +kernel)⟩, hN _ rfl, (hboot _ (by decide)).trans (by decide +kernel)⟩
    len := gb _ _ (hN _ rfl) ((hboot _ (by decide)).trans (by decide +kernel))
    min := gb _ _ (hN _ rfl) ((hboot _ (by decide)).trans (by decide +kernel))
    max := gb _ _ (hN _ rfl) ((hboot _ (by decide)).trans (by decide +kernel))
    sum := gb _ _ (hN _ rfl) ((hboot _ (by decide)).trans (by decide +kernel))
    divmod := gb _ _ (hN _ rfl) ((hboot _ (by decide)).trans (by decide +kernel))
    sorted := gb _ _ (hN _ rfl) ((hboot _ (by decide)).trans (by decide +kernel))
    all := gb _ _ (hN _ rfl) ((hboot _ (by decide)).trans (by decide +kernel))
    range := gb _ _ (hN _ rfl) ((hboot _ (by decide)).trans (by decide +kernel))
    list := gb _ _ (hN _ rfl) ((hboot _ (by decide)).trans (by decide +kernel))
    dict := gb _ _ (hN _ rfl) ((hboot _ (by decide)).trans (by decide +kernel))
    type := gb _ _ (hN _ rfl) ((hboot _ (by decide)).trans (by decide +kernel))
    int := gb _ _ (hN _ rfl) ((hboot _ (by decide)).trans (by decide +kernel))
    tuple := gb _ _ (hN _ rfl) ((hboot _ (by decide)).trans (by decide +kernel))
    verr := gb _ _ (hN _ rfl) ((hboot _ (by decide)).trans (by decide +kernel))
    fns := fns
    plain := ⟨_, Sq.GlobV.own hG (hM _ _ rfl), .tuple (hk _ _ (by decide) (KX _ _ rfl)) rfl rfl (.cons (.int _ _) (.cons (.int _ _) (.cons (.int _ _) (.cons (.int _ _) (.cons (.int _ _) (.cons (.int _ _) (.cons (.int _ _) (.cons (.int _ _) .nil))))))))⟩
    spans := ⟨_, Sq.GlobV.own hG (hM _ _ rfl), .tuple (hk _ _ (by decide) (KX _ _ rfl)) rfl rfl (.cons (.int _ _) (.cons (.int _ _) (.cons (.int _ _) (.cons (.int _ _) (.cons (.int _ _) .nil)))))⟩
    extras := ⟨_, Sq.GlobV.own hG (hM _ _ rfl), .tuple (hk _ _ (by decide) (KX _ _ rfl)) rfl rfl (.cons (.int _ _) (.cons (.int _ _) (.cons (.int _ _) (.cons (.int _ _) (.cons (.int _ _) (.cons (.int _ _) (.cons (.int _ _) (.cons (.int _ _) .nil))))))))⟩
    figures := ⟨_, Sq.GlobV.own hG (hM _ _ rfl), .tuple (hk _ _ (by decide) (KX _ _ rfl)) rfl rfl (.cons (.int _ _) (.cons (.int _ _) (.cons (.int _ _) (.cons (.int _ _) (.cons (.int _ _) (.cons (.int _ _) (.cons (.int _ _) (.cons (.int _ _) (.cons (.int _ _) (.cons (.int _ _) (.cons (.int _ _) .nil)))))))))))⟩
    tab := Sq.topC_tab _ _ _ _
    same := by
      obtain ⟨a, g1, g2⟩ := f24
      refine ⟨148, 149, ⟨_, _, _, _, _, _, _, _, _, hk 148 _ (by decide) (KX 148 _ rfl), rfl, rfl, rfl, rfl, rfl, rfl, rfl, rfl⟩, Sq.GlobV.own hG (hM _ _ rfl), Sq.FnAt.of (hk 149 _ (by decide) (KX 149 _ rfl)) rfl rfl rfl rfl rfl rfl (hm := rfl) (Sq.bnd2 fun a b => rfl) rfl (hk 148 _ (by decide) (KX 148 _ rfl)) rfl rfl rfl rfl rfl (by decide) (by decide), fun o fd h1 h2 => ?_⟩
      have e1 := Option.some.inj (h1.symm.trans (hk 149 _ (by decide) (KX 149 _ rfl)))
      rw [e1] at h2
      injection h2 with h3
      rw [← h3] }
  have F32 : Sq.FnAt C fa (Sq.fp 32) (Sq.fb 32) (Sq.fs 32) := by
    have e : fa = 195 := by
      have h1 := hM "law" _ rfl
      rw [hmg'] at h1
      injection h1 with h2
      injection h2
    rw [e]
    exact Sq.FnAt.of (hk 195 _ (by decide) (KX 195 _ rfl)) rfl rfl rfl rfl rfl rfl (hm := rfl) (Sq.bnd1 fun a => rfl) rfl (hk 194 _ (by decide) (KX 194 _ rfl)) rfl rfl rfl rfl rfl (by decide) (by decide)
  have inv : Sq.Inv C C.K0 Sq.HM.emp s₁ := by
    refine ⟨fun a o e => ?_, (fun a o e => by cases e), (fun a o e => by cases e), Sq.HM.le.refl _, (show (if (144 : Addr) = 144 then none else s₁.heap.get? 144) = none from if_pos rfl), rfl, ⟨#[], hP.1, trivial⟩, rfl, AllBare.of_eq hg⟩
    have e' : (if a = 144 then none else s₁.heap.get? a) = some o := e
    split at e'
    · cases e'
    · exact e'
  have rep : Sq.Rep C.K0 (.ref l) (.list (Sq.nums ns)) := by
    obtain ⟨oL, h1, h2, mL, h3⟩ := hL
    have hdict : oL.dict = none := by
      have hW' : Well w.params s₁.heap (Value.ref l) (.list (ofPys (ns.map PyData.int))) := by simpa [ofPy] using hW
      cases hW' with
      | list hget _ => rw [hget] at h1; cases h1; rfl
    have hints : ∀ {vs : List Value} {ns : List Int}, IntsAre vs ns → Sq.RepAll C.K0 vs (Sq.nums ns) := by
      intro vs ns h
      induction h with
      | nil => exact .nil
      | cons n t _ ih => exact .cons (.int _ _) ih
    exact .list (hk _ _ (apart _ _ h1 (by rw [h2]; decide)) h1) h2 hdict h3 (by simpa using hints hI)
  refine wpAny_mono (Sq.law_wp gs F32 ns (by omega) rep ⟨rfl, by decide, by decide⟩ rfl inv) (fun v s' p => ?_) fun _ _ x => x
  obtain ⟨K', l', I', r'⟩ := p
  cases r'
  obtain ⟨ps', hps', _⟩ := I'.tab
  refine ⟨.inl ⟨.bool true, .bool true, [], rfl, fun cls => rfl, .bool true, postW_of (by wrow_shape) (by wtm_val) (by first | rfl | simp), fun _ => ⟨List.nodup_nil, fun a h => by cases h⟩⟩, ?_, I'.os, I'.gens⟩
  have keep : Heap.ExtBut 144 s₁.heap s'.heap := fun b o hb e => I'.k b o (l' _ _ (hk b o hb e))
  refine OldK.step_table (more := ps') (OldK.refl s₁.heap) hP.2 hP.2 ?_ keep (by decide)
  obtain ⟨⟨oc, vc, t1, t2, t3, t4⟩, _⟩ := hP.2
  refine ⟨⟨oc, vc, keep _ _ (by decide) t1, t2, t3, t4⟩, ?_⟩
  have e : (#[] : Array Value) ++ ps' = ps' := by simp
  rw [e]; exact hps'
