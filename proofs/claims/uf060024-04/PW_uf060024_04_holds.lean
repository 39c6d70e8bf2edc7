import PyProof.Rows.All
import Wide.All
import OpenK.AllK
import Wide.FinOn
import PyProof.CompFree
import PyProof.Cells
import PyProof.ForAny
import PyProof.ForAppend
import PyProof.Rows.Many
import PyProof.Rows.IntRules
import PyProof.DefCall
import PyProof.Rows.Globals
import PyProof.P3In
import PyProof.ListCopy
import PyProof.ForRange
import PyProof.Rows.EqDataRows
import PyProof.Rows.TupSub
import PyProof.Rows.StrTemp
import PyProof.Rows.Nodes
import PyProof.Rows.SeqMore
import PyProof.Rows.RuleB_floordiv
import PyProof.Rows.RuleB_mul
import PyProof.Rows.RuleC_int
import PyProof.Rows.RuleU_int
import PyProof.Rows.RuleB_small
import PyProof.ListIndexNeg
import PyProof.Rows.SeqFit
import PyProof.Raises
import PyProof.SetScanFacts
import PyProof.Rows.SetFrom
import PyProof.Rows.SortShell
import PyProof.CollectIter
import PyProof.IsiPairs
import Lean
import PySem.Challenge.RW_uf060024_04
set_option Elab.async false
/-! # M1 -/
section
set_option autoImplicit false
namespace Mine
open PySem PySem.Calls PyProof.Rows

inductive D where
  | none
  | bool (b : Bool)
  | int (i : Int)
  | str (s : Str)
  | tuple (ds : List D)
  | list (ds : List D)
  | raw (v : Value)

mutual
inductive Rd (X : Addr → Prop) (h : Heap) : Value → D → Prop
  | none : Rd X h .none .none
  | bool (b) : Rd X h (.bool b) (.bool b)
  | int (i t) : Rd X h (.int i t) (.int i)
  | str (x t) : Rd X h (.str x t) (.str x)
  | raw (v) : Rd X h v (.raw v)
  | list {a o vs n ds} : ¬ X a → h.get? a = some o → o.cls = .type "list" → o.data = .seq vs n → RdAll X h vs.toList ds → Rd X h (.ref a) (.list ds)
  | tuple {a o vs n ds} : ¬ X a → h.get? a = some o → o.cls = .type "tuple" → o.data = .seq vs n → RdAll X h vs.toList ds → Rd X h (.ref a) (.tuple ds)
inductive RdAll (X : Addr → Prop) (h : Heap) : List Value → List D → Prop
  | nil : RdAll X h [] []
  | cons {v vs d ds} : Rd X h v d → RdAll X h vs ds → RdAll X h (v :: vs) (d :: ds)
end

mutual
theorem Rd.mono {X X' : Addr → Prop} {h h' : Heap} (k : ∀ a o, ¬ X a → h.get? a = some o → ¬ X' a ∧ h'.get? a = some o) : ∀ {v : Value} {d : D}, Rd X h v d → Rd X' h' v d
  | _, _, .none => .none
  | _, _, .bool b => .bool b
  | _, _, .int i t => .int i t
  | _, _, .str x t => .str x t
  | _, _, .raw v => .raw v
  | _, _, .list h1 h2 h3 h4 h5 => .list (k _ _ h1 h2).1 (k _ _ h1 h2).2 h3 h4 (RdAll.mono k h5)
  | _, _, .tuple h1 h2 h3 h4 h5 => .tuple (k _ _ h1 h2).1 (k _ _ h1 h2).2 h3 h4 (RdAll.mono k h5)
theorem RdAll.mono {X X' : Addr → Prop} {h h' : Heap} (k : ∀ a o, ¬ X a → h.get? a = some o → ¬ X' a ∧ h'.get? a = some o) : ∀ {vs : List Value} {ds : List D}, RdAll X h vs ds → RdAll X' h' vs ds
  | _, _, .nil => .nil
  | _, _, .cons h1 h2 => .cons (Rd.mono k h1) (RdAll.mono k h2)
end

def Sub (h h' : Heap) : Prop := ∀ a o, h.get? a = some o → h'.get? a = some o
theorem Sub.refl (h : Heap) : Sub h h := fun _ _ e => e
theorem Sub.trans {h h' h'' : Heap} (x : Sub h h') (y : Sub h' h'') : Sub h h'' := fun a o e => y a o (x a o e)
theorem Rd.keep {X : Addr → Prop} {h h' : Heap} {v : Value} {d : D} (r : Rd X h v d) (k : Sub h h') : Rd X h' v d := r.mono fun a o n e => ⟨n, k a o e⟩
theorem RdAll.keep {X : Addr → Prop} {h h' : Heap} {v : List Value} {d : List D} (r : RdAll X h v d) (k : Sub h h') : RdAll X h' v d := r.mono fun a o n e => ⟨n, k a o e⟩
theorem Rd.weak {X X' : Addr → Prop} {h : Heap} {v : Value} {d : D} (r : Rd X h v d) (k : ∀ a, X' a → X a) : Rd X' h v d := r.mono fun a _ n e => ⟨fun x => n (k a x), e⟩
theorem RdAll.weak {X X' : Addr → Prop} {h : Heap} {v : List Value} {d : List D} (r : RdAll X h v d) (k : ∀ a, X' a → X a) : RdAll X' h v d := r.mono fun a _ n e => ⟨fun x => n (k a x), e⟩

theorem RdAll.length {X : Addr → Prop} {h : Heap} : ∀ {vs : List Value} {ds : List D}, RdAll X h vs ds → vs.length = ds.length
  | _, _, .nil => rfl
  | _, _, .cons _ r => by simp [r.length]
theorem RdAll.append {X : Addr → Prop} {h : Heap} : ∀ {vs ws : List Value} {ds es : List D}, RdAll X h vs ds → RdAll X h ws es → RdAll X h (vs ++ ws) (ds ++ es)
  | _, _, _, _, .nil, k => k
  | _, _, _, _, .cons a r, k => .cons a (r.append k)
theorem RdAll.get {X : Addr → Prop} {h : Heap} : ∀ {vs : List Value} {ds : List D}, RdAll X h vs ds → ∀ {i : Nat} {d : D}, ds[i]? = some d → ∃ v, vs[i]? = some v ∧ Rd X h v d
  | _, _, .nil, i, d, e => by simp at e
  | _, _, .cons a r, 0, d, e => by simp at e; subst e; exact ⟨_, by simp, a⟩
  | _, _, .cons a r, i + 1, d, e => by
    obtain ⟨v, hv, hr⟩ := r.get (i := i) (d := d) (by simpa using e)
    exact ⟨v, by simpa using hv, hr⟩
theorem RdAll.getV {X : Addr → Prop} {h : Heap} : ∀ {vs : List Value} {ds : List D}, RdAll X h vs ds → ∀ {i : Nat} {v : Value}, vs[i]? = some v → ∃ d, ds[i]? = some d ∧ Rd X h v d
  | _, _, .nil, i, d, e => by simp at e
  | _, _, .cons a r, 0, d, e => by simp at e; subst e; exact ⟨_, by simp, a⟩
  | _, _, .cons a r, i + 1, d, e => by
    obtain ⟨v, hv, hr⟩ := r.getV (i := i) (v := d) (by simpa using e)
    exact ⟨v, by simpa using hv, hr⟩

/-- what stands below every call: the top's globals -/
structure Cx where
  prog : Program
  w : World
  base : Heap
  mg : Str → Option Value
  mb : Str → Option Value
  g : base.Ns mainGlobals mg
  b : base.Ns builtinsNs mb
  nolimit : base.NoLimit
  builtins : ∀ x : Str, x ≠ "__name__" → mb x = bootBuiltins x

structure Room (k : Nat) (A : Around) : Prop where
  handled : A.handled = none
  depth : A.depth + k < recursionLimit
  units : A.units + 8 * k + 200 < cLine

theorem Room.le {k j : Nat} {A : Around} (r : Room k A) (h : j ≤ k) : Room j A := ⟨r.handled, by have := r.depth; omega, by have := r.units; omega⟩
theorem Room.deeper {k : Nat} {A : Around} (r : Room (k + 1) A) (env : Env) : Room k (A.deeper env) := ⟨r.handled, by have := r.depth; show A.depth + 1 + k < _; omega, by have := r.units; show A.units + 3 + 8 * k + 200 < _; omega⟩

def Var (env : Env) (h : Heap) (x : Str) (v : Value) : Prop :=
  (env.kindOf x = some .local ∧ ∃ m, h.Ns env.locals m ∧ m x = some v) ∨ ((env.kindOf x = some .cell ∨ (env.kindOf x = some .free ∧ (x == ("__classdict__" : Str)) = false)) ∧ ∃ c, env.cells.lookup x = some c ∧ h.IsCell c (some v))

theorem Var.keep {env : Env} {h h' : Heap} {x : Str} {v : Value} (r : Var env h x v) (k : Sub h h') : Var env h' x v := by
  rcases r with ⟨a, m, n, e⟩ | ⟨a, c, e, i⟩
  · exact .inl ⟨a, m, n.keeps k, e⟩
  · exact .inr ⟨a, c, e, i.keeps k⟩

abbrev Vars := List (Str × D)
abbrev Mem := List (Addr × List D)

structure EnvOk (env : Env) : Prop where
  kind : env.scope.kind = .function
  globals : env.globals = mainGlobals
  builtins : env.builtins = builtinsNs
  has : ∀ n, env.kindOf n = some .cell ∨ env.kindOf n = some .free → ∃ a, env.cells.lookup n = some a

/-- a plain list object -/
def PL (h : Heap) (a : Addr) (vs : Array Value) : Prop := ∃ o, h.get? a = some o ∧ o.cls = .type "list" ∧ o.dict = none ∧ ∃ n, o.data = .seq vs n
theorem PL.isList {h : Heap} {a : Addr} {vs : Array Value} (x : PL h a vs) : h.IsList a vs := let ⟨o, e, c, _, n, d⟩ := x; ⟨o, e, c, n, d⟩
theorem PL.plain {h : Heap} {a : Addr} {vs : Array Value} (x : PL h a vs) : PlainL h a vs := let ⟨o, e, c, q, n, d⟩ := x; ⟨o, n, e, c, q, d⟩
theorem PL.of {h : Heap} {a : Addr} {vs : Array Value} (x : PlainL h a vs) : PL h a vs := let ⟨o, n, e, c, q, d⟩ := x; ⟨o, e, c, q, n, d⟩
theorem PL.extBut {h h' : Heap} {a b : Addr} {vs : Array Value} (x : PL h a vs) (hs : Heap.ExtBut b h h') (hab : a ≠ b) : PL h' a vs := let ⟨o, e, r⟩ := x; ⟨o, hs a o hab e, r⟩

/-- an own list that may still change -/
def ML (X : Addr → Prop) (h : Heap) (a : Addr) (ds : List D) : Prop := ∃ vs, PL h a vs ∧ RdAll X h vs.toList ds
theorem ML.keep {X : Addr → Prop} {h h' : Heap} {a : Addr} {ds : List D} (r : ML X h a ds) (k : Sub h h') : ML X h' a ds :=
  let ⟨vs, ⟨o, e, q⟩, y⟩ := r; ⟨vs, ⟨o, k a o e, q⟩, y.keep k⟩

/-- what an expression may read -/
structure Rc (c : Cx) (X : Addr → Prop) (env : Env) (ρ : Vars) (μ : Mem) (s : Shared) : Prop where
  ok : EnvOk env
  base : Sub c.base s.heap
  live : ∀ a, X a → ∃ o, s.heap.get? a = some o
  cel : ∀ n a, env.cells.lookup n = some a → X a ∧ c.base.get? a = none ∧ ∃ ov, s.heap.IsCell a ov
  apart : ∀ n n' a, env.cells.lookup n = some a → env.cells.lookup n' = some a → n = n'
  vars : ∀ x d, ρ.lookup x = some d → ∃ v, Var env s.heap x v ∧ Rd X s.heap v d
  mem : ∀ a ds, (a, ds) ∈ μ → X a ∧ ML X s.heap a ds

theorem Rc.keep {c : Cx} {X : Addr → Prop} {env : Env} {ρ : Vars} {μ : Mem} {s s' : Shared} (r : Rc c X env ρ μ s) (k : Sub s.heap s'.heap) : Rc c X env ρ μ s' :=
  ⟨r.ok, r.base.trans k, fun a x => let ⟨o, e⟩ := r.live a x; ⟨o, k a o e⟩, fun n a e => let ⟨x, y, ov, z⟩ := r.cel n a e; ⟨x, y, ov, z.keeps k⟩, r.apart, fun x d e => let ⟨v, a, b⟩ := r.vars x d e; ⟨v, a.keep k, b.keep k⟩, fun a ds e => ⟨(r.mem a ds e).1, (r.mem a ds e).2.keep k⟩⟩

/-- what no step here touches -/
structure Same (s s' : Shared) : Prop where
  os : s'.os = s.os
  gens : s'.gens = s.gens
theorem Same.refl (s : Shared) : Same s s := ⟨rfl, rfl⟩
theorem Same.trans {s s' s'' : Shared} (a : Same s s') (b : Same s' s'') : Same s s'' := ⟨b.os.trans a.os, b.gens.trans a.gens⟩

/-- the old heap is kept -/
structure Kp (s s' : Shared) : Prop where
  sub : Sub s.heap s'.heap
  same : Same s s'
theorem Kp.refl (s : Shared) : Kp s s := ⟨Sub.refl _, Same.refl s⟩
theorem Kp.tok (s : Shared) (t : Nat) : Kp s { s with toks := t } := ⟨Sub.refl _, ⟨rfl, rfl⟩⟩
theorem Kp.heap (s : Shared) (h : Heap) (t : Nat) (k : Sub s.heap h) : Kp s { s with heap := h, toks := t } := ⟨k, ⟨rfl, rfl⟩⟩
theorem Kp.push (s : Shared) (o : Obj) (t : Nat) : Kp s { s with heap := s.heap.push o, toks := t } := Kp.heap s _ t fun _ _ e => Heap.get?_push_of_some _ e
theorem Kp.trans {s s' s'' : Shared} (a : Kp s s') (b : Kp s' s'') : Kp s s'' := ⟨a.sub.trans b.sub, a.same.trans b.same⟩

/-- a pure tree: it gives a value that reads as d; the old heap is kept -/
def Gives (c : Cx) (X : Addr → Prop) (A : Around) (t : Sem Value) (d : D) (s : Shared) : Prop :=
  ∀ E, wpAny (model c.prog c.w) A t (fun v s' => Kp s s' ∧ Rd X s'.heap v d) E s

def Ev (c : Cx) (k : Nat) (env : Env) (ρ : Vars) (μ : Mem) (e : Expr) (d : D) : Prop :=
  ∀ X A s, Room k A → Rc c X env ρ μ s → Gives c X A (eval e env) d s

/-- a test -/
def Tr (c : Cx) (k : Nat) (env : Env) (ρ : Vars) (μ : Mem) (e : Expr) (b : Bool) : Prop :=
  ∀ X A s E, Room k A → Rc c X env ρ μ s → wpAny (model c.prog c.w) A (isTrue e env (eval e env)) (fun v s' => Kp s s' ∧ v = b) E s

section
variable {c : Cx} {k : Nat} {env : Env} {ρ : Vars} {μ : Mem}

theorem ev_name {x : Str} {pos : Pos} {d : D} (e : ρ.lookup x = some d) (hd : (x == ("__debug__" : Str)) = false) : Ev c k env ρ μ (.Name x pos) d := by
  intro X A s hA R E
  obtain ⟨v, hv, hr⟩ := R.vars x d e
  refine wpAny_Name ?_ hd
  rcases hv with ⟨a, m, n, q⟩ | ⟨a | a, c', q, i⟩
  · exact wpAny_loadName_local R.ok.kind a n q ⟨Kp.refl s, hr⟩
  · exact wpAny_loadName_cell R.ok.kind a q i ⟨Kp.refl s, hr⟩
  · exact wpAny_loadName_free R.ok.kind a.1 q i ⟨Kp.refl s, hr⟩ a.2

theorem ev_int {i : Int} {kk : Nat} {pos : Pos} : Ev c k env ρ μ (.Constant (.int i) kk pos) (.int i) := fun _ _ s _ _ _ =>
  wpAny_Constant_int ⟨Kp.tok s _, .int _ _⟩
theorem ev_str {x : Str} {kk : Nat} {pos : Pos} : Ev c k env ρ μ (.Constant (.str x) kk pos) (.str x) := fun _ _ s _ _ _ =>
  Constant_str ⟨Kp.tok s _, .str _ _⟩
theorem ev_bool {b : Bool} {kk : Nat} {pos : Pos} : Ev c k env ρ μ (.Constant (.bool b) kk pos) (.bool b) := fun _ _ s _ _ _ =>
  fun _ _ _ => ⟨Kp.refl s, .bool _⟩

theorem gives_bind {X : Addr → Prop} {A : Around} {s : Shared} {t : Sem Value} {d : D} {Q : Value → Shared → Prop} {E : Value → Shared → Prop} (g : Gives c X A t d s)
    (h : ∀ v s', Kp s s' → Rd X s'.heap v d → Q v s') : wpAny (model c.prog c.w) A t Q E s :=
  wpAny_mono (g E) (fun v s' q => h v s' q.1 q.2) fun _ _ e => e
theorem gives_after {X : Addr → Prop} {A : Around} {s s' : Shared} {t : Sem Value} {d : D} {E : Value → Shared → Prop} (g : Gives c X A t d s') (hk : Kp s s') :
    wpAny (model c.prog c.w) A t (fun v s'' => Kp s s'' ∧ Rd X s''.heap v d) E s' :=
  gives_bind g fun _ _ k r => ⟨hk.trans k, r⟩

/-- an operator of two values -/
theorem ev_bin {l r : Expr} {op : Operator} {pos : Pos} {a b d : D} (ha : Ev c k env ρ μ l a) (hb : Ev c k env ρ μ r b)
    (h : ∀ X A s v u, Room k A → Rd X s.heap v a → Rd X s.heap u b → (∀ a, X a → ∃ o, s.heap.get? a = some o) → Gives c X A (binaryOp op v u) d s) : Ev c k env ρ μ (.BinOp l op r pos) d := by
  intro X A s hA R E
  refine wpAny_BinOp (gives_bind (ha X A s hA R) fun v s₁ k₁ r₁ => ?_)
  have R₁ := R.keep k₁.sub
  refine gives_bind (hb X A s₁ hA R₁) fun u s₂ k₂ r₂ => ?_
  exact gives_after (h X A s₂ v u hA (r₁.keep k₂.sub) r₂ (R₁.keep k₂.sub).live) (k₁.trans k₂)

theorem ev_cmp {l r : Expr} {op : CmpOp} {pos : Pos} {a b d : D} (ha : Ev c k env ρ μ l a) (hb : Ev c k env ρ μ r b)
    (h : ∀ X A s v u, Room k A → Rd X s.heap v a → Rd X s.heap u b → Gives c X A (compareOp op v u) d s) (hm : behindInMarks op r = false := by with_unfolding_all rfl) : Ev c k env ρ μ (.Compare l [op] [r] pos) d := by
  intro X A s hA R E
  refine wpAny_Compare1 (gives_bind (ha X A s hA R) fun v s₁ k₁ r₁ => ?_) hm
  have R₁ := R.keep k₁.sub
  refine gives_bind (hb X A s₁ hA R₁) fun u s₂ k₂ r₂ => ?_
  exact gives_after (h X A s₂ v u hA (r₁.keep k₂.sub) r₂) (k₁.trans k₂)

theorem tr_cmp {l r : Expr} {op : CmpOp} {pos : Pos} {a b : D} {d : Bool} (ha : Ev c k env ρ μ l a) (hb : Ev c k env ρ μ r b)
    (h : ∀ X A s v u, Room k A → Rd X s.heap v a → Rd X s.heap u b → Gives c X A (compareOp op v u) (.bool d) s) (hm : behindInMarks op r = false := by with_unfolding_all rfl) : Tr c k env ρ μ (.Compare l [op] [r] pos) d := by
  intro X A s E hA R
  refine wpAny_isTrue_Compare1 (gives_bind (ha X A s hA R) fun v s₁ k₁ r₁ => ?_) hm
  have R₁ := R.keep k₁.sub
  refine gives_bind (hb X A s₁ hA R₁) fun u s₂ k₂ r₂ => ?_
  refine gives_bind (h X A s₂ v u hA (r₁.keep k₂.sub) r₂) fun x s₃ k₃ r₃ => ?_
  cases r₃
  exact wpAny_truthy_bool ⟨(k₁.trans k₂).trans k₃, rfl⟩
end

/-! ## ints -/
section
variable {c : Cx} {k : Nat} {env : Env} {ρ : Vars} {μ : Mem} {l r : Expr} {pos : Pos} {a b : Int}

theorem ev_add (ha : Ev c k env ρ μ l (.int a)) (hb : Ev c k env ρ μ r (.int b)) : Ev c k env ρ μ (.BinOp l .Add r pos) (.int (a + b)) :=
  ev_bin ha hb fun X A s v u _ h1 h2 _ E => by cases h1; cases h2; exact PyProof.Rows.add_int ⟨Kp.tok s _, .int _ _⟩
theorem ev_sub (ha : Ev c k env ρ μ l (.int a)) (hb : Ev c k env ρ μ r (.int b)) : Ev c k env ρ μ (.BinOp l .Sub r pos) (.int (a - b)) :=
  ev_bin ha hb fun X A s v u _ h1 h2 _ E => by cases h1; cases h2; exact PyProof.Rows.sub_int ⟨Kp.tok s _, .int _ _⟩
theorem ev_mod (ha : Ev c k env ρ μ l (.int a)) (hb : Ev c k env ρ μ r (.int b)) (h0 : b ≠ 0) : Ev c k env ρ μ (.BinOp l .Mod r pos) (.int (a.fmod b)) :=
  ev_bin ha hb fun X A s v u _ h1 h2 _ E => by cases h1; cases h2; exact PyProof.Rows.mod_int h0 ⟨Kp.tok s _, .int _ _⟩

theorem cmp_lt {X : Addr → Prop} {A : Around} {s : Shared} {v u : Value} (h1 : Rd X s.heap v (.int a)) (h2 : Rd X s.heap u (.int b)) : Gives c X A (compareOp .Lt v u) (.bool (decide (a < b))) s := fun E => by
  cases h1; cases h2; exact PyProof.Rows.lt_int ⟨Kp.refl s, .bool _⟩
theorem cmp_gt {X : Addr → Prop} {A : Around} {s : Shared} {v u : Value} (h1 : Rd X s.heap v (.int a)) (h2 : Rd X s.heap u (.int b)) : Gives c X A (compareOp .Gt v u) (.bool (decide (b < a))) s := fun E => by
  cases h1; cases h2; exact PyProof.Rows.gt_int ⟨Kp.refl s, .bool _⟩
theorem cmp_eq {X : Addr → Prop} {A : Around} {s : Shared} {v u : Value} (h1 : Rd X s.heap v (.int a)) (h2 : Rd X s.heap u (.int b)) : Gives c X A (compareOp .Eq v u) (.bool (a == b)) s := fun E => by
  cases h1; cases h2; exact PyProof.Rows.eq_int ⟨Kp.refl s, .bool _⟩
theorem cmp_ne {X : Addr → Prop} {A : Around} {s : Shared} {v u : Value} (h1 : Rd X s.heap v (.int a)) (h2 : Rd X s.heap u (.int b)) : Gives c X A (compareOp .NotEq v u) (.bool (a != b)) s := fun E => by
  cases h1; cases h2; exact PyProof.Rows.ne_int ⟨Kp.refl s, .bool _⟩
end
end Mine
end

/-! # M2 -/
section
set_option autoImplicit false
namespace Mine
open PySem PySem.Calls PyProof.Rows

def Mut (env : Env) (μ : Mem) (a : Addr) : Prop := a = env.locals ∨ (∃ n, env.cells.lookup n = some a) ∨ ∃ ds, (a, ds) ∈ μ
def XOf (X₀ : Addr → Prop) (env : Env) (μ : Mem) (a : Addr) : Prop := X₀ a ∨ Mut env μ a

structure St (c : Cx) (X₀ : Addr → Prop) (env : Env) (ρ : Vars) (μ : Mem) (s : Shared) : Prop where
  ok : EnvOk env
  base : Sub c.base s.heap
  own : ∀ a, Mut env μ a → c.base.get? a = none
  live : ∀ a, X₀ a → ∃ o, s.heap.get? a = some o
  ns : ∃ m, s.heap.Ns env.locals m
  cel : ∀ n a, env.cells.lookup n = some a → ∃ ov, s.heap.IsCell a ov
  apart : ∀ n n' a, env.cells.lookup n = some a → env.cells.lookup n' = some a → n = n'
  vars : ∀ x d, ρ.lookup x = some d → ∃ v, Var env s.heap x v ∧ Rd (XOf X₀ env μ) s.heap v d
  mem : ∀ a ds, (a, ds) ∈ μ → ML (XOf X₀ env μ) s.heap a ds
  nodup : (μ.map (·.1)).Nodup
  memX : ∀ a ds, (a, ds) ∈ μ → ¬ X₀ a

structure Go (env : Env) (μ : Mem) (s : Shared) (μ' : Mem) (s' : Shared) : Prop where
  same : Same s s'
  keep : ∀ a o, ¬ Mut env μ a → s.heap.get? a = some o → s'.heap.get? a = some o
  alive : ∀ a o, s.heap.get? a = some o → ∃ o', s'.heap.get? a = some o'
  grow : ∀ a ds, (a, ds) ∈ μ' → (∃ ds', (a, ds') ∈ μ) ∨ s.heap.get? a = none

theorem Go.refl (env : Env) (μ : Mem) (s : Shared) : Go env μ s μ s := ⟨Same.refl s, fun _ _ _ e => e, fun _ o e => ⟨o, e⟩, fun _ ds h => .inl ⟨ds, h⟩⟩
theorem Go.of_kp {env : Env} {μ : Mem} {s s' : Shared} (k : Kp s s') : Go env μ s μ s' := by
  exact ⟨k.same, fun a o _ q => k.sub a o q, fun a o q => ⟨o, k.sub a o q⟩, fun _ ds h => .inl ⟨ds, h⟩⟩
theorem Go.trans {env : Env} {μ μ₁ μ₂ : Mem} {s s₁ s₂ : Shared} (x : Go env μ s μ₁ s₁) (y : Go env μ₁ s₁ μ₂ s₂) : Go env μ s μ₂ s₂ := by
  refine ⟨x.same.trans y.same, fun a o n e => ?_, fun a o e => ?_, fun a ds m => ?_⟩
  · refine y.keep a o (fun m => n ?_) (x.keep a o n e)
    rcases m with m | m | ⟨ds, m⟩
    · exact .inl m
    · exact .inr (.inl m)
    · rcases x.grow a ds m with q | q
      · exact .inr (.inr q)
      · rw [e] at q; cases q
  · obtain ⟨o', e'⟩ := x.alive a o e
    exact y.alive a o' e'
  · rcases y.grow a ds m with ⟨ds', q⟩ | q
    · exact x.grow a ds' q
    · right
      cases h : s.heap.get? a with
      | none => rfl
      | some o => obtain ⟨o', e'⟩ := x.alive a o h; rw [q] at e'; cases e'

theorem St.rc {c : Cx} {X₀ : Addr → Prop} {env : Env} {ρ : Vars} {μ : Mem} {s : Shared} (S : St c X₀ env ρ μ s) : Rc c (XOf X₀ env μ) env ρ μ s := by
  refine ⟨S.ok, S.base, fun a h => ?_, fun n a h => ⟨.inr (.inr (.inl ⟨n, h⟩)), S.own a (.inr (.inl ⟨n, h⟩)), S.cel n a h⟩, S.apart, S.vars, fun a ds h => ⟨.inr (.inr (.inr ⟨ds, h⟩)), S.mem a ds h⟩⟩
  rcases h with h | h | ⟨n, h⟩ | ⟨ds, h⟩
  · exact S.live a h
  · obtain ⟨m, o, _, _, e, _⟩ := S.ns; exact ⟨o, h ▸ e⟩
  · obtain ⟨ov, o, e, _⟩ := S.cel n a h; exact ⟨o, e⟩
  · obtain ⟨vs, ⟨o, e, _⟩, _⟩ := S.mem a ds h; exact ⟨o, e⟩

/-- a step that keeps the old heap keeps the state -/
theorem St.kp {c : Cx} {X₀ : Addr → Prop} {env : Env} {ρ : Vars} {μ : Mem} {s s' : Shared} (S : St c X₀ env ρ μ s) (k : Kp s s') : St c X₀ env ρ μ s' := by
  have k' := k.sub
  refine ⟨S.ok, S.base.trans k', S.own, fun a h => ?_, ?_, fun n a h => ?_, S.apart, fun x d e => ?_, fun a ds m => (S.mem a ds m).keep k', S.nodup, S.memX⟩
  · obtain ⟨o, e⟩ := S.live a h; exact ⟨o, k' a o e⟩
  · obtain ⟨m, h⟩ := S.ns; exact ⟨m, h.keeps k'⟩
  · obtain ⟨ov, h⟩ := S.cel n a h; exact ⟨ov, h.keeps k'⟩
  · obtain ⟨v, a, b⟩ := S.vars x d e; exact ⟨v, a.keep k', b.keep k'⟩

theorem St.weak {c : Cx} {X₀ : Addr → Prop} {env : Env} {ρ ρ' : Vars} {μ : Mem} {s : Shared} (S : St c X₀ env ρ μ s) (h : ∀ x d, ρ'.lookup x = some d → ρ.lookup x = some d) : St c X₀ env ρ' μ s :=
  { S with vars := fun x d e => S.vars x d (h x d e) }

def stor (env : Env) (x : Str) : Bool := match env.kindOf x with
  | some .local => true
  | some .cell => true
  | _ => false

theorem IsCell_ne_Ns {h : Heap} {a b : Addr} {v : Option Value} {m : Str → Option Value} (x : h.IsCell a v) (y : h.Ns b m) : a ≠ b := by
  rintro rfl
  obtain ⟨o, e, d⟩ := x
  obtain ⟨o', es, ep, e', d', _⟩ := y
  rw [e] at e'; cases e'; rw [d] at d'; cases d'
theorem IsList_ne_Ns {h : Heap} {a b : Addr} {v : Array Value} {m : Str → Option Value} (x : h.IsList a v) (y : h.Ns b m) : a ≠ b := by
  rintro rfl
  obtain ⟨o, e, _, n, d⟩ := x
  obtain ⟨o', es, ep, e', d', _⟩ := y
  rw [e] at e'; cases e'; rw [d] at d'; cases d'
theorem IsList_ne_Cell {h : Heap} {a b : Addr} {v : Array Value} {m : Option Value} (x : h.IsList a v) (y : h.IsCell b m) : a ≠ b := by
  rintro rfl
  obtain ⟨o, e, _, n, d⟩ := x
  obtain ⟨o', e', d'⟩ := y
  rw [e] at e'; cases e'; rw [d] at d'; cases d'

/-- a change at one own address keeps what reads off it -/
theorem Rd.but {X : Addr → Prop} {h h' : Heap} {a : Addr} {v : Value} {d : D} (r : Rd X h v d) (hX : X a) (hs : Heap.SameBut a h h') : Rd X h' v d :=
  r.mono fun b o n e => ⟨n, hs.extBut b o (fun q => n (q ▸ hX)) e⟩
theorem RdAll.but {X : Addr → Prop} {h h' : Heap} {a : Addr} {v : List Value} {d : List D} (r : RdAll X h v d) (hX : X a) (hs : Heap.SameBut a h h') : RdAll X h' v d :=
  r.mono fun b o n e => ⟨n, hs.extBut b o (fun q => n (q ▸ hX)) e⟩

theorem Go.but {env : Env} {μ : Mem} {s : Shared} {h' : Heap} {tk : Nat} {a : Addr} (hm : Mut env μ a) (hs : Heap.SameBut a s.heap h') (ha : ∃ o, h'.get? a = some o) : Go env μ s μ { s with heap := h', toks := tk } := by
  refine ⟨⟨rfl, rfl⟩, fun b o n e => hs.extBut b o (fun q => n (q ▸ hm)) e, fun b o e => ?_, fun _ ds h => .inl ⟨ds, h⟩⟩
  by_cases q : b = a
  · exact q ▸ ha
  · exact ⟨o, hs.extBut b o q e⟩

section
variable {c : Cx} {X₀ : Addr → Prop} {env : Env} {ρ : Vars} {μ : Mem} {s : Shared} {A : Around} {E : Value → Shared → Prop}

def addrOf (env : Env) (x : Str) : Addr := if env.kindOf x = some .local then env.locals else (env.cells.lookup x).getD 0

theorem st_store' {x : Str} {v : Value} {d : D} {Q : Unit → Shared → Prop} (S : St c X₀ env ρ μ s) (hx : stor env x = true) (r : Rd (XOf X₀ env μ) s.heap v d)
    (h : ∀ s', St c X₀ env ((x, d) :: ρ) μ s' → Go env μ s μ s' → Heap.SameBut (addrOf env x) s.heap s'.heap → Q () s') : wpAny (model c.prog c.w) A (storeName env x v) Q E s := by
  obtain ⟨m, hn⟩ := S.ns
  have hp : (env.scope.kind == .class || (env.scope.kind == .module && env.locals != env.globals)) = false := by rw [S.ok.kind]; rfl
  have look : ∀ (y : Str) (e : D), ((x, d) :: ρ).lookup y = some e → (y = x ∧ e = d) ∨ (y ≠ x ∧ ρ.lookup y = some e) := fun y e q => by
    rw [List.lookup_cons] at q
    by_cases hy : y = x
    · subst hy; simp at q; exact .inl ⟨rfl, q.symm⟩
    · have : (y == x) = false := by simpa using hy
      rw [this] at q; exact .inr ⟨hy, q⟩
  unfold stor at hx
  split at hx
  · rename_i hl
    refine wpAny_storeName_local hl hn (fun h' hn' hs' => ?_) hp
    have hX : XOf X₀ env μ env.locals := .inr (.inl rfl)
    refine h _ ⟨S.ok, fun a o e => hs'.extBut a o (fun q => ?_) (S.base a o e), S.own, fun a ha => ?_, ⟨_, hn'⟩, fun n a ha => ?_, S.apart, fun y e q => ?_, fun a ds hm => ?_, S.nodup, S.memX⟩ (Go.but (.inl rfl) hs' ?_) (by unfold addrOf; rw [if_pos hl]; exact hs')
    · have := S.own _ (.inl rfl); rw [q, this] at e; cases e
    · by_cases q : a = env.locals
      · obtain ⟨o, _, _, e, _⟩ := hn'; exact ⟨o, q ▸ e⟩
      · obtain ⟨o, e⟩ := S.live a ha; exact ⟨o, hs'.extBut a o q e⟩
    · obtain ⟨ov, hc⟩ := S.cel n a ha; exact ⟨ov, hc.sameBut hs' (IsCell_ne_Ns hc hn)⟩
    · rcases look y e q with ⟨rfl, rfl⟩ | ⟨hy, q⟩
      · exact ⟨v, .inl ⟨hl, _, hn', by simp⟩, r.but hX hs'⟩
      · obtain ⟨u, hu, hr⟩ := S.vars y e q
        refine ⟨u, ?_, hr.but hX hs'⟩
        rcases hu with ⟨a, m', n', e'⟩ | ⟨a, c', e', i⟩
        · refine .inl ⟨a, _, hn', ?_⟩
          rw [if_neg hy]
          have : m' = m := by
            obtain ⟨o1, es1, ep1, g1, d1, _, f1⟩ := n'
            obtain ⟨o2, es2, ep2, g2, d2, _, f2⟩ := hn
            rw [g1] at g2; cases g2; rw [d1] at d2; cases d2
            funext z; rw [← f1, ← f2]
          rw [← this]; exact e'
        · exact .inr ⟨a, c', e', i.sameBut hs' (IsCell_ne_Ns i hn)⟩
    · obtain ⟨vs, hl', hr⟩ := S.mem a ds hm
      exact ⟨vs, hl'.extBut hs'.extBut (IsList_ne_Ns hl'.isList hn), hr.but hX hs'⟩
    · obtain ⟨o, _, _, e, _⟩ := hn'; exact ⟨o, e⟩
  · rename_i hl
    obtain ⟨a, ha⟩ := S.ok.has x (.inl hl)
    obtain ⟨ov, hc⟩ := S.cel x a ha
    refine wpAny_storeName_cell S.ok.kind hl ha hc fun h' hc' hs' => ?_
    have hX : XOf X₀ env μ a := .inr (.inr (.inl ⟨x, ha⟩))
    have hg : Go env μ s μ { s with heap := h' } := Go.but (tk := s.toks) (.inr (.inl ⟨x, ha⟩)) hs' (let ⟨o, e, _⟩ := hc'; ⟨o, e⟩)
    refine h _ ⟨S.ok, fun b o e => hs'.extBut b o (fun q => ?_) (S.base b o e), S.own, fun b hb => ?_, ?_, fun n b hb => ?_, S.apart, fun y e q => ?_, fun b ds hm => ?_, S.nodup, S.memX⟩ hg (by unfold addrOf; rw [if_neg (by rw [hl]; decide), ha]; exact hs')
    · have := S.own _ (.inr (.inl ⟨x, ha⟩)); rw [q, this] at e; cases e
    · by_cases q : b = a
      · obtain ⟨o, e, _⟩ := hc'; exact ⟨o, q ▸ e⟩
      · obtain ⟨o, e⟩ := S.live b hb; exact ⟨o, hs'.extBut b o q e⟩
    · exact ⟨m, hn.sameBut hs' (IsCell_ne_Ns hc hn).symm⟩
    · by_cases q : b = a
      · exact ⟨_, q ▸ hc'⟩
      · obtain ⟨ov', hb'⟩ := S.cel n b hb; exact ⟨ov', hb'.sameBut hs' q⟩
    · rcases look y e q with ⟨rfl, rfl⟩ | ⟨hy, q⟩
      · exact ⟨v, .inr ⟨.inl hl, a, ha, hc'⟩, r.but hX hs'⟩
      · obtain ⟨u, hu, hr⟩ := S.vars y e q
        refine ⟨u, ?_, hr.but hX hs'⟩
        rcases hu with ⟨b, m', n', e'⟩ | ⟨b, c', e', i⟩
        · exact .inl ⟨b, m', n'.sameBut hs' (IsCell_ne_Ns hc n').symm, e'⟩
        · refine .inr ⟨b, c', e', i.sameBut hs' fun q' => hy (S.apart y x c' e' (q' ▸ ha))⟩
    · obtain ⟨vs, hl', hr⟩ := S.mem b ds hm
      exact ⟨vs, hl'.extBut hs'.extBut (IsList_ne_Cell hl'.isList hc), hr.but hX hs'⟩
  · cases hx
theorem st_store {x : Str} {v : Value} {d : D} {Q : Unit → Shared → Prop} (S : St c X₀ env ρ μ s) (hx : stor env x = true) (r : Rd (XOf X₀ env μ) s.heap v d)
    (h : ∀ s', St c X₀ env ((x, d) :: ρ) μ s' → Go env μ s μ s' → Q () s') : wpAny (model c.prog c.w) A (storeName env x v) Q E s :=
  st_store' S hx r fun s' a b _ => h s' a b
end

inductive Out where
  | next | brk | cont
  | ret (d : D)

def OutIs (X : Addr → Prop) (h : Heap) : Flow → Out → Prop
  | .next, .next => True
  | .brk, .brk => True
  | .cont, .cont => True
  | .ret v, .ret d => Rd X h v d
  | _, _ => False

def Post (c : Cx) (X₀ : Addr → Prop) (env : Env) (μ : Mem) (s : Shared) (Q : Out → Vars → Mem → Prop) (fl : Flow) (s' : Shared) : Prop :=
  ∃ o ρ' μ', OutIs (XOf X₀ env μ') s'.heap fl o ∧ St c X₀ env ρ' μ' s' ∧ Go env μ s μ' s' ∧ Q o ρ' μ'

def Ex (c : Cx) (k : Nat) (env : Env) (ρ : Vars) (μ : Mem) (ss : List Stmt) (Q : Out → Vars → Mem → Prop) : Prop :=
  ∀ X₀ A s E, Room k A → St c X₀ env ρ μ s → wpAny (model c.prog c.w) A (execs ss env) (Post c X₀ env μ s Q) E s
def Ex1 (c : Cx) (k : Nat) (env : Env) (ρ : Vars) (μ : Mem) (st : Stmt) (Q : Out → Vars → Mem → Prop) : Prop :=
  ∀ X₀ A s E, Room k A → St c X₀ env ρ μ s → wpAny (model c.prog c.w) A (exec st env) (Post c X₀ env μ s Q) E s

section
variable {c : Cx} {k : Nat} {env : Env} {ρ ρ' : Vars} {μ : Mem} {Q : Out → Vars → Mem → Prop}

theorem Post.after {X₀ : Addr → Prop} {μ μ₁ : Mem} {s s₁ : Shared} {Q : Out → Vars → Mem → Prop} {fl : Flow} {s' : Shared} (g : Go env μ s μ₁ s₁) (p : Post c X₀ env μ₁ s₁ Q fl s') : Post c X₀ env μ s Q fl s' :=
  let ⟨o, ρ', μ', a, b, g', q⟩ := p; ⟨o, ρ', μ', a, b, g.trans g', q⟩

theorem ex_nil (h : Q .next ρ μ) : Ex c k env ρ μ [] Q := fun _ _ s _ _ S => wpAny_execs_nil ⟨.next, ρ, μ, trivial, S, Go.refl env μ s, h⟩

theorem ex_seq {st : Stmt} {rest : List Stmt} (h : Ex1 c k env ρ μ st (fun o ρ' μ' => match o with | .next => Ex c k env ρ' μ' rest Q | o => Q o ρ' μ')) : Ex c k env ρ μ (st :: rest) Q := by
  intro X₀ A s E hA S
  refine wpAny_execs_cons (wpAny_mono (h X₀ A s E hA S) (fun fl s' p => ?_) fun _ _ e => e)
  obtain ⟨o, ρ', μ', a, b, g, q⟩ := p
  cases fl <;> cases o <;> first | exact a.elim | skip
  · exact wpAny_mono (q X₀ A s' E hA b) (fun fl' s'' p' => Post.after g p') fun _ _ e => e
  · exact ⟨.brk, ρ', μ', trivial, b, g, q⟩
  · exact ⟨.cont, ρ', μ', trivial, b, g, q⟩
  · exact ⟨.ret _, ρ', μ', a, b, g, q⟩

theorem ex_mono {ss : List Stmt} {Q' : Out → Vars → Mem → Prop} (h : Ex c k env ρ μ ss Q) (hq : ∀ o ρ' μ', Q o ρ' μ' → Q' o ρ' μ') : Ex c k env ρ μ ss Q' := fun X₀ A s E hA S =>
  wpAny_mono (h X₀ A s E hA S) (fun _ _ ⟨o, ρ', μ', a, b, g, q⟩ => ⟨o, ρ', μ', a, b, g, hq _ _ _ q⟩) fun _ _ e => e
theorem ex_weak {ss : List Stmt} (h : Ex c k env ρ' μ ss Q) (hw : ∀ x d, ρ'.lookup x = some d → ρ.lookup x = some d) : Ex c k env ρ μ ss Q := fun X₀ A s E hA S => h X₀ A s E hA (S.weak hw)

theorem ex_assign {x : Str} {px pos : Pos} {e : Expr} {d : D} (he : Ev c k env ρ μ e d) (h : Q .next ((x, d) :: ρ) μ) (hx : stor env x = true := by rfl)
    (hs : swapsWith e (some (.Name x px)) pos.line env = pure false := by rfl) : Ex1 c k env ρ μ (.Assign [.Name x px] e pos) Q := by
  intro X₀ A s E hA S
  refine wpAny_Assign_Name (gives_bind (he _ A s hA S.rc) fun v s₁ k₁ r₁ => ?_) hs
  exact st_store (S.kp k₁) hx r₁ fun s' S' g => ⟨.next, _, μ, trivial, S', (Go.of_kp k₁).trans g, h⟩

theorem ex_return {e : Expr} {pos : Pos} {d : D} (he : Ev c k env ρ μ e d) (h : Q (.ret d) ρ μ) : Ex1 c k env ρ μ (.Return (some e) pos) Q := by
  intro X₀ A s E hA S
  exact wpAny_Return_some (gives_bind (he _ A s hA S.rc) fun v s₁ k₁ r₁ => ⟨.ret d, ρ, μ, r₁, S.kp k₁, Go.of_kp k₁, h⟩)

theorem ex_if {test : Expr} {body orelse : List Stmt} {pos : Pos} {b : Bool} (ht : Tr c k env ρ μ test b) (h1 : b = true → Ex c k env ρ μ body Q) (h2 : b = false → Ex c k env ρ μ orelse Q) : Ex1 c k env ρ μ (.If test body orelse pos) Q := by
  intro X₀ A s E hA S
  refine wpAny_If (wpAny_mono (ht _ A s E hA S.rc) (fun v s₁ q => ?_) fun _ _ e => e)
  obtain ⟨k₁, rfl⟩ := q
  cases v with
  | true =>
    simp only [if_true]
    exact wpAny_mono (h1 rfl X₀ A s₁ E hA (S.kp k₁)) (fun _ _ p => Post.after (Go.of_kp k₁) p) fun _ _ e => e
  | false =>
    simp only [Bool.false_eq_true, if_false]
    exact wpAny_mono (h2 rfl X₀ A s₁ E hA (S.kp k₁)) (fun _ _ p => Post.after (Go.of_kp k₁) p) fun _ _ e => e

/-- a loop by a word on what it keeps, and a measure -/
theorem ex_while {test : Expr} {body : List Stmt} {pos : Pos} (I : Nat → Vars → Mem → Prop) (n : Nat) (h0 : I n ρ μ)
    (turn : ∀ n ρ μ, I n ρ μ → ∃ b, Tr c k env ρ μ test b ∧ (b = true → Ex c k env ρ μ body (fun o ρ' μ' => match o with
      | .next | .cont => ∃ m, m < n ∧ I m ρ' μ'
      | .brk => Q .next ρ' μ'
      | .ret d => Q (.ret d) ρ' μ')) ∧ (b = false → Q .next ρ μ)) : Ex1 c k env ρ μ (.While test body [] pos) Q := by
  intro X₀ A s E hA S
  refine wpAny_While (codeAny_whileLoop (fun n s' => ∃ ρ' μ', St c X₀ env ρ' μ' s' ∧ Go env μ s μ' s' ∧ I n ρ' μ') ?_ n ⟨ρ, μ, S, Go.refl env μ s, h0⟩)
  rintro n s₁ ⟨ρ₁, μ₁, S₁, g₁, hI⟩
  obtain ⟨b, ht, hb1, hb2⟩ := turn n ρ₁ μ₁ hI
  refine wpAny_mono (ht _ A s₁ _ hA S₁.rc) (fun v s₂ q => ?_) fun _ _ e => e
  obtain ⟨k₁, rfl⟩ := q
  have g₂ := g₁.trans (Go.of_kp (env := env) (μ := μ₁) k₁)
  cases v with
  | true =>
    simp only [if_true]
    refine wpAny_mono (hb1 rfl X₀ A s₂ _ hA (S₁.kp k₁)) (fun fl s₃ p => ?_) fun _ _ e => e
    obtain ⟨o, ρ', μ', a, S', g', q⟩ := p
    cases fl <;> cases o <;> first | exact a.elim | skip
    · obtain ⟨m, hm, q⟩ := q; exact ⟨m, hm, ρ', μ', S', g₂.trans g', q⟩
    · exact ⟨.next, ρ', μ', trivial, S', g₂.trans g', q⟩
    · obtain ⟨m, hm, q⟩ := q; exact ⟨m, hm, ρ', μ', S', g₂.trans g', q⟩
    · exact ⟨.ret _, ρ', μ', a, S', g₂.trans g', q⟩
  | false =>
    simp only [Bool.false_eq_true, if_false]
    exact wpAny_execs_nil ⟨.next, ρ₁, μ₁, trivial, S₁.kp k₁, g₂, hb2 rfl⟩

structure SrcOf (c : Cx) (X : Addr → Prop) (A : Around) (ds : List D) (s s₂ : Shared) (I : Addr) (fp wr : List Addr) (P : Nat → Value → Prop) (W : Nat → Heap → Prop) : Prop where
  walks : Walks c.prog c.w A I fp wr ds.length P W
  start : W 0 s₂.heap
  kp : Kp s s₂
  new : ∀ b ∈ wr, s.heap.get? b = none
  foot : ∀ b ∈ fp, (b ∈ wr ∨ ¬ X b) ∧ ∃ o, s₂.heap.get? b = some o
  wrLive : ∀ i h, W i h → ∀ b ∈ wr, ∃ o, h.get? b = some o
  item : ∀ i d v, ds[i]? = some d → P i v → Rd (fun a => X a ∨ a ∈ wr) s₂.heap v d
def SrcAt (c : Cx) (X : Addr → Prop) (A : Around) (ds : List D) (s : Shared) (it : Value) (s₂ : Shared) : Prop :=
  ∃ I fp wr P W, it = .ref I ∧ SrcOf c X A ds s s₂ I fp wr P W

/-- what a for or a comprehension goes over -/
def Src (c : Cx) (k : Nat) (env : Env) (ρ : Vars) (μ : Mem) (iter : Expr) (ds : List D) : Prop :=
  ∀ X A s E, Room k A → Rc c X env ρ μ s → wpAny (model c.prog c.w) A (eval iter env) (fun x s₁ => wpAny (model c.prog c.w) A (pyIter x) (fun it s₂ =>
    SrcAt c X A ds s it s₂) E s₁) E s

/-- the turns of a for, in order -/
def Turns (c : Cx) (k : Nat) (env : Env) (x : Str) (body : List Stmt) (Q : Out → Vars → Mem → Prop) : List D → Vars → Mem → Prop
  | [], ρ, μ => Q .next ρ μ
  | d :: ds, ρ, μ => Ex c k env ((x, d) :: ρ) μ body (fun o ρ' μ' => match o with
      | .next | .cont => Turns c k env x body Q ds ρ' μ'
      | .brk => Q .next ρ' μ'
      | .ret d => Q (.ret d) ρ' μ')
end
end Mine
end

/-! # M3 -/
section
set_option autoImplicit false
namespace Mine
open PySem PySem.Calls PyProof.Rows

/-- as Go, but for what the loop's own iterator writes -/
structure GoW (wr : List Addr) (env : Env) (μ : Mem) (s : Shared) (μ' : Mem) (s' : Shared) : Prop where
  same : Same s s'
  keep : ∀ a o, ¬ Mut env μ a → a ∉ wr → s.heap.get? a = some o → s'.heap.get? a = some o
  alive : ∀ a o, s.heap.get? a = some o → ∃ o', s'.heap.get? a = some o'
  grow : ∀ a ds, (a, ds) ∈ μ' → (∃ ds', (a, ds') ∈ μ) ∨ s.heap.get? a = none

theorem GoW.refl (wr : List Addr) (env : Env) (μ : Mem) (s : Shared) : GoW wr env μ s μ s := ⟨Same.refl s, fun _ _ _ _ e => e, fun _ o e => ⟨o, e⟩, fun _ ds h => .inl ⟨ds, h⟩⟩
theorem GoW.trans {wr : List Addr} {env : Env} {μ μ₁ μ₂ : Mem} {s s₁ s₂ : Shared} (x : GoW wr env μ s μ₁ s₁) (y : Go env μ₁ s₁ μ₂ s₂) : GoW wr env μ s μ₂ s₂ := by
  refine ⟨x.same.trans y.same, fun a o n w e => ?_, fun a o e => ?_, fun a ds m => ?_⟩
  · refine y.keep a o (fun m => n ?_) (x.keep a o n w e)
    rcases m with m | m | ⟨ds, m⟩
    · exact .inl m
    · exact .inr (.inl m)
    · rcases x.grow a ds m with q | q
      · exact .inr (.inr q)
      · rw [e] at q; cases q
  · obtain ⟨o', e'⟩ := x.alive a o e
    exact y.alive a o' e'
  · rcases y.grow a ds m with ⟨ds', q⟩ | q
    · exact x.grow a ds' q
    · right
      cases h : s.heap.get? a with
      | none => rfl
      | some o => obtain ⟨o', e'⟩ := x.alive a o h; rw [q] at e'; cases e'
/-- the iterator's own step -/
theorem GoW.step {wr : List Addr} {env : Env} {μ μ₁ : Mem} {s s₁ : Shared} {h' : Heap} {tk : Nat} (x : GoW wr env μ s μ₁ s₁) (k : ∀ b o, b ∉ wr → s₁.heap.get? b = some o → h'.get? b = some o)
    (l : ∀ b ∈ wr, ∃ o, h'.get? b = some o) : GoW wr env μ s μ₁ { s₁ with heap := h', toks := tk } := by
  refine ⟨x.same.trans ⟨rfl, rfl⟩, fun a o n w e => k a o w (x.keep a o n w e), fun a o e => ?_, x.grow⟩
  · obtain ⟨o', e'⟩ := x.alive a o e
    by_cases w : a ∈ wr
    · exact l a w
    · exact ⟨o', k a o' w e'⟩
/-- seen from ahead of the iterator -/
theorem GoW.go {wr : List Addr} {env : Env} {μ μ₁ : Mem} {s s₁ s₂ : Shared} (k : Kp s s₁) (n : ∀ b ∈ wr, s.heap.get? b = none) (x : GoW wr env μ s₁ μ₁ s₂) : Go env μ s μ₁ s₂ := by
  have k' := k.sub
  refine ⟨k.same.trans x.same, fun a o m e => x.keep a o m (fun w => ?_) (k' a o e), fun a o e => x.alive a o (k' a o e), fun a ds m => ?_⟩
  · rw [n a w] at e; cases e
  · refine (x.grow a ds m).imp id fun q => ?_
    cases h : s.heap.get? a with
    | none => rfl
    | some o => rw [k' a o h] at q; cases q

/-- other addresses for the caller's -/
theorem St.reX {c : Cx} {X₀ X₁ : Addr → Prop} {env : Env} {ρ : Vars} {μ : Mem} {s : Shared} (S : St c X₁ env ρ μ s) (h : ∀ a, X₀ a → X₁ a) : St c X₀ env ρ μ s := by
  have hx : ∀ a, XOf X₀ env μ a → XOf X₁ env μ a := fun a q => q.imp (h a) id
  refine { S with live := fun a q => S.live a (h a q), vars := fun x d e => ?_, mem := fun a ds m => ?_, memX := fun a ds m q => S.memX a ds m (h a q) }
  · obtain ⟨v, a, b⟩ := S.vars x d e; exact ⟨v, a, b.weak hx⟩
  · obtain ⟨vs, a, b⟩ := S.mem a ds m; exact ⟨vs, a, b.weak hx⟩
/-- what is new is no one's -/
theorem St.addX {c : Cx} {X₀ : Addr → Prop} {env : Env} {ρ : Vars} {μ : Mem} {s s' : Shared} {wr : List Addr} (S : St c X₀ env ρ μ s) (k : Kp s s') (n : ∀ b ∈ wr, s.heap.get? b = none) (l : ∀ b ∈ wr, ∃ o, s'.heap.get? b = some o) :
    St c (fun a => X₀ a ∨ a ∈ wr) env ρ μ s' := by
  have S' := S.kp k
  have k' := k.sub
  have hx : ∀ a o, ¬ XOf X₀ env μ a → s.heap.get? a = some o → ¬ XOf (fun a => X₀ a ∨ a ∈ wr) env μ a ∧ s'.heap.get? a = some o := fun a o q e => by
    refine ⟨?_, k' a o e⟩
    rintro ((y | y) | y)
    · exact q (.inl y)
    · rw [n a y] at e; cases e
    · exact q (.inr y)
  refine { S' with live := fun a q => ?_, vars := fun x d e => ?_, mem := fun a ds m => ?_, memX := fun a ds m q => ?_ }
  · rcases q with q | q
    · exact S'.live a q
    · exact l a q
  · obtain ⟨v, a, b⟩ := S.vars x d e; exact ⟨v, a.keep k', b.mono hx⟩
  · obtain ⟨vs, ⟨o, e, y⟩, b⟩ := S.mem a ds m; exact ⟨vs, ⟨o, k' a o e, y⟩, b.mono hx⟩
  · rcases q with q | q
    · exact S.memX a ds m q
    · obtain ⟨o, e⟩ := S.rc.live a (.inr (.inr (.inr ⟨ds, m⟩))); rw [n a q] at e; cases e
/-- a change within the caller's addresses -/
theorem St.inX {c : Cx} {X₀ : Addr → Prop} {env : Env} {ρ : Vars} {μ : Mem} {s s' : Shared} {wr : List Addr} (S : St c X₀ env ρ μ s) (k : ∀ b o, b ∉ wr → s.heap.get? b = some o → s'.heap.get? b = some o) (hw : ∀ b ∈ wr, X₀ b)
    (l : ∀ b ∈ wr, ∃ o, s'.heap.get? b = some o) (hm : ∀ b ∈ wr, ¬ Mut env μ b) (hb : ∀ b ∈ wr, c.base.get? b = none) : St c X₀ env ρ μ s' := by
  have hx : ∀ a o, ¬ XOf X₀ env μ a → s.heap.get? a = some o → ¬ XOf X₀ env μ a ∧ s'.heap.get? a = some o := fun a o q e => ⟨q, k a o (fun w => q (.inl (hw a w))) e⟩
  have hM : ∀ a o, Mut env μ a → s.heap.get? a = some o → s'.heap.get? a = some o := fun a o m e => k a o (fun w => hm a w m) e
  refine { S with base := fun a o e => k a o (fun w => ?_) (S.base a o e), live := fun a q => ?_, ns := ?_, cel := fun n a h => ?_, vars := fun x d e => ?_, mem := fun a ds m => ?_ }
  · rw [hb a w] at e; cases e
  · by_cases w : a ∈ wr
    · exact l a w
    · obtain ⟨o, e⟩ := S.live a q; exact ⟨o, k a o w e⟩
  · obtain ⟨m, o, es, ep, e, r⟩ := S.ns
    exact ⟨m, o, es, ep, hM _ _ (.inl rfl) e, r⟩
  · obtain ⟨ov, o, e, r⟩ := S.cel n a h
    exact ⟨ov, o, hM _ _ (.inr (.inl ⟨n, h⟩)) e, r⟩
  · obtain ⟨v, a, b⟩ := S.vars x d e
    refine ⟨v, ?_, b.mono hx⟩
    rcases a with ⟨a, m, ⟨o, es, ep, e', r⟩, q⟩ | ⟨a, c', q, o, e', r⟩
    · exact .inl ⟨a, m, ⟨o, es, ep, hM _ _ (.inl rfl) e', r⟩, q⟩
    · exact .inr ⟨a, c', q, o, hM _ _ (.inr (.inl ⟨x, q⟩)) e', r⟩
  · obtain ⟨vs, ⟨o, e, y⟩, b⟩ := S.mem a ds m
    exact ⟨vs, ⟨o, hM _ _ (.inr (.inr ⟨ds, m⟩)) e, y⟩, b.mono hx⟩

theorem St.live' {c : Cx} {X₀ : Addr → Prop} {env : Env} {ρ : Vars} {μ : Mem} {s : Shared} (S : St c X₀ env ρ μ s) {a : Addr} (h : Mut env μ a) : ∃ o, s.heap.get? a = some o := S.rc.live a (.inr h)

section
variable {c : Cx} {k : Nat} {env : Env} {ρ ρ' : Vars} {μ : Mem} {Q : Out → Vars → Mem → Prop}

theorem ex_for {x : Str} {px pos : Pos} {iter : Expr} {body : List Stmt} {ds : List D} (hi : Src c k env ρ μ iter ds) (h : Turns c k env x body Q ds ρ μ) (hx : stor env x = true := by rfl)
    (hs : ∀ x, foldedSetIterable iter env x = pure x := by intro _; rfl) : Ex1 c k env ρ μ (.For (.Name x px) iter body [] pos) Q := by
  intro X₀ A s E hA S
  refine wpAny_For (wpAny_mono (hi _ A s E hA S.rc) (fun v s₁ h₁ => wpAny_mono h₁ (fun it s₂ h₂ => ?_) fun _ _ e => e) fun _ _ e => e) hs
  obtain ⟨I, fp, wr, P, W, rfl, O⟩ := h₂
  have hsub := O.walks.sub
  have S₂ : St c (fun a => X₀ a ∨ a ∈ wr) env ρ μ s₂ := S.addX O.kp O.new (O.wrLive 0 _ O.start)
  have hwM : ∀ μ' s', GoW wr env μ s₂ μ' s' → ∀ b ∈ fp, ¬ Mut env μ' b := by
    intro μ' s' g b hb m
    have notM : ¬ Mut env μ b := by
      intro m'
      rcases (O.foot b hb).1 with w | w
      · obtain ⟨o, e⟩ := S.live' m'; rw [O.new b w] at e; cases e
      · exact w (.inr m')
    rcases m with m | m | ⟨ds, m⟩
    · exact notM (.inl m)
    · exact notM (.inr (.inl m))
    · rcases g.grow b ds m with q | q
      · exact notM (.inr (.inr q))
      · obtain ⟨o, e⟩ := (O.foot b hb).2; rw [q] at e; cases e
  have hbase : ∀ b ∈ wr, c.base.get? b = none := fun b hb => by
    cases h : c.base.get? b with
    | none => rfl
    | some o => have := S.base b o h; rw [O.new b hb] at this; cases this
  refine codeAny_forLoop (R := fun r s' => match r with | .ok f => Post c X₀ env μ s Q f s' | .error e => cameBackBy (model c.prog c.w) A env E e s')
    (fun n s' => ∃ i ρ' μ', i ≤ ds.length ∧ n = ds.length + 1 - i ∧ W i s'.heap ∧ St c (fun a => X₀ a ∨ a ∈ wr) env ρ' μ' s' ∧ GoW wr env μ s₂ μ' s' ∧ Turns c k env x body Q (ds.drop i) ρ' μ')
    ?_ (ds.length + 1) ⟨0, ρ, μ, Nat.zero_le _, rfl, O.start, S₂, GoW.refl wr env μ s₂, by simpa using h⟩
  rintro n s' ⟨i, ρ', μ', hle, rfl, hW, S', g, hT⟩
  have hup : ∀ b ∈ wr, ¬ Mut env μ' b := fun b hb => hwM μ' s' g b (hsub b hb)
  by_cases hlt : i < ds.length
  · refine O.walks.item i s' _ _ hlt hW fun v h' tk hP hW' hk => ?_
    have hwl := O.wrLive _ _ hW'
    have S₃ : St c (fun a => X₀ a ∨ a ∈ wr) env ρ' μ' { s' with heap := h', toks := tk } := S'.inX (s' := { s' with heap := h', toks := tk }) hk (fun b hb => .inr hb) hwl hup hbase
    have g₃ : GoW wr env μ s₂ μ' { s' with heap := h', toks := tk } := g.step hk hwl
    have hd : ds[i]? = some ds[i] := by simp [hlt]
    have r₃ : Rd (XOf (fun a => X₀ a ∨ a ∈ wr) env μ') h' v ds[i] := (O.item i _ v hd hP).mono fun a o n e => by
      have nM : ¬ Mut env μ a := fun m => n (.inl (.inr m))
      have nw : a ∉ wr := fun w => n (.inr w)
      refine ⟨?_, g₃.keep a o nM nw e⟩
      rintro ((y | y) | (y | y | ⟨ds, y⟩))
      · exact n (.inl (.inl y))
      · exact nw y
      · exact nM (.inl y)
      · exact nM (.inr (.inl y))
      · rcases g₃.grow a ds y with q | q
        · exact nM (.inr (.inr q))
        · rw [q] at e; cases e
    refine wpAny_assign_Name (st_store S₃ hx r₃ fun s₄ S₄ g₄ => ?_)
    have hW₄ : W (i + 1) s₄.heap := O.walks.frame _ _ _ hW' fun b hb o e => g₄.keep b o (hwM _ _ g₃ b hb) e
    have g₅ := g₃.trans g₄
    rw [List.drop_eq_getElem_cons hlt] at hT
    refine wpAny_mono (hT _ A s₄ _ hA S₄) (fun fl s₅ p => ?_) fun _ _ e => e
    obtain ⟨o, ρ₅, μ₅, a, S₅, g₆, q⟩ := p
    have g₇ := g₅.trans g₆
    have hW₅ : W (i + 1) s₅.heap := O.walks.frame _ _ _ hW₄ fun b hb o e => g₆.keep b o (hwM _ _ g₅ b hb) e
    have S₆ : St c X₀ env ρ₅ μ₅ s₅ := S₅.reX fun a h => .inl h
    cases fl <;> cases o <;> first | exact a.elim | skip
    · exact ⟨_, by omega, i + 1, ρ₅, μ₅, hlt, rfl, hW₅, S₅, g₇, q⟩
    · exact ⟨.next, ρ₅, μ₅, trivial, S₆, g₇.go O.kp O.new, q⟩
    · exact ⟨_, by omega, i + 1, ρ₅, μ₅, hlt, rfl, hW₅, S₅, g₇, q⟩
    · exact ⟨.ret _, ρ₅, μ₅, Rd.weak a fun a h => h.imp .inl id, S₆, g₇.go O.kp O.new, q⟩
  · have hin : i = ds.length := by omega
    refine O.walks.done s' _ _ (hin ▸ hW) fun h' tk hk => wpAny_execs_nil ?_
    rw [hin, List.drop_length] at hT
    have S₃ : St c X₀ env ρ' μ' { s' with heap := h', toks := tk } := by
      have S₀ : St c X₀ env ρ' μ' s' := S'.reX fun a h => .inl h
      have hx : ∀ a o, ¬ XOf (fun a => X₀ a ∨ a ∈ wr) env μ' a → s'.heap.get? a = some o → ¬ XOf X₀ env μ' a ∧ h'.get? a = some o := fun a o q e => ⟨fun y => q (y.imp .inl id), hk a o (fun w => q (.inl (.inr w))) e⟩
      have hM : ∀ a o, Mut env μ' a → s'.heap.get? a = some o → h'.get? a = some o := fun a o m e => hk a o (fun w => hup a w m) e
      refine { S₀ with base := fun a o e => hk a o (fun w => ?_) (S₀.base a o e), live := fun a q => ?_, ns := ?_, cel := fun n a h => ?_, vars := fun x d e => ?_, mem := fun a ds m => ?_ }
      · rw [hbase a w] at e; cases e
      · obtain ⟨o, e⟩ := S.live a q
        by_cases w : a ∈ wr
        · rw [O.new a w] at e; cases e
        · obtain ⟨o', e'⟩ := S'.live a (.inl q); exact ⟨o', hk a o' w e'⟩
      · obtain ⟨m, o, es, ep, e, r⟩ := S₀.ns
        exact ⟨m, o, es, ep, hM _ _ (.inl rfl) e, r⟩
      · obtain ⟨ov, o, e, r⟩ := S₀.cel n a h
        exact ⟨ov, o, hM _ _ (.inr (.inl ⟨n, h⟩)) e, r⟩
      · obtain ⟨v, a, b⟩ := S'.vars x d e
        refine ⟨v, ?_, b.mono hx⟩
        rcases a with ⟨a, m, ⟨o, es, ep, e', r⟩, q⟩ | ⟨a, c', q, o, e', r⟩
        · exact .inl ⟨a, m, ⟨o, es, ep, hM _ _ (.inl rfl) e', r⟩, q⟩
        · exact .inr ⟨a, c', q, o, hM _ _ (.inr (.inl ⟨x, q⟩)) e', r⟩
      · obtain ⟨vs, ⟨o, e, y⟩, b⟩ := S'.mem a ds m
        exact ⟨vs, ⟨o, hM _ _ (.inr (.inr ⟨ds, m⟩)) e, y⟩, b.mono hx⟩
    have g' := g.go O.kp O.new
    refine ⟨.next, ρ', μ', trivial, S₃, ⟨g'.same.trans ⟨rfl, rfl⟩, fun a o n e => hk a o (fun w => ?_) (g'.keep a o n e), fun a o e => ?_, g'.grow⟩, hT⟩
    · rw [O.new a w] at e; cases e
    · obtain ⟨o', e'⟩ := g'.alive a o e
      refine ⟨o', hk a o' (fun w => ?_) e'⟩
      rw [O.new a w] at e; cases e

/-- over a list that is told -/
theorem src_list {e : Expr} {ds : List D} (he : Ev c k env ρ μ e (.list ds)) : Src c k env ρ μ e ds := by
  intro X A s E hA R
  refine gives_bind (he X A s hA R) fun v s₁ k₁ r₁ => ?_
  cases r₁ with
  | list hX ho hc hd hr =>
    rename_i a o vs n
    refine wpAny_pyIter_list ⟨o, ho, hc, n, hd⟩ ?_
    have hne : a ≠ s₁.heap.objs.size := Nat.ne_of_lt (Heap.lt_size ho)
    have hl : vs.size = ds.length := by have := hr.length; simpa using this
    have hnew : s₁.heap.get? s₁.heap.objs.size = none := by
      cases h : s₁.heap.get? s₁.heap.objs.size with
      | none => rfl
      | some o => exact absurd (Heap.lt_size h) (Nat.lt_irrefl _)
    have hW := Walks.list (prog := c.prog) (w := c.w) hA.handled s₁.heap.objs.size a hne vs
    rw [hl] at hW
    refine ⟨_, _, _, _, _, rfl, hW, ⟨⟨_, Heap.get?_push_size _ rfl, rfl, rfl⟩, o, Heap.get?_push_of_some _ ho, hc, n, hd⟩, k₁.trans (Kp.push s₁ _ _), fun b hb => ?_, fun b hb => ?_, fun i h st b hb => ?_, fun i d v hi hv => ?_⟩
    · simp at hb; subst hb
      cases h : s.heap.get? s₁.heap.objs.size with
      | none => rfl
      | some o => rw [k₁.sub _ _ h] at hnew; cases hnew
    · simp at hb
      rcases hb with rfl | rfl
      · exact ⟨.inl (by simp), _, Heap.get?_push_size _ rfl⟩
      · exact ⟨.inr hX, _, Heap.get?_push_of_some _ ho⟩
    · simp at hb; subst hb
      obtain ⟨⟨o, e, _⟩, _⟩ := st; exact ⟨o, e⟩
    · obtain ⟨u, hu, hr'⟩ := hr.get hi
      have : u = v := by
        have e1 : vs[i]? = some u := by simpa using hu
        rw [hv] at e1; exact (Option.some.inj e1).symm
      subst this
      refine hr'.mono fun b o' nb eb => ⟨?_, Heap.get?_push_of_some _ eb⟩
      rintro (y | y)
      · exact nb y
      · simp at y; subst y; rw [hnew] at eb; cases eb
end
end Mine
end

/-! # M4 -/
section
set_option autoImplicit false
namespace Mine
open PySem PySem.Calls PyProof.Rows

theorem cf_lookup : ∀ (names : List (Str × NameKind)) (h : Heap) (acc : List (Str × Addr)) (n : Str) (a : Addr), (cellsFrom h.objs.size names acc).lookup n = some a → acc.lookup n = some a ∨ (h.objs.size ≤ a ∧ (pushCells h names).IsCell a none)
  | [], _, _, _, _, e => .inl e
  | (name, kind) :: r, h, acc, n, a, e => by
    unfold cellsFrom at e
    unfold pushCells
    split
    · rename_i hk
      rw [if_pos hk] at e
      have hs : (h.push { cls := .type "cell", data := .cell none }).objs.size = h.objs.size + 1 := Heap.size_push ..
      rw [← hs] at e
      rcases cf_lookup r _ _ n a e with q | q
      · rw [List.lookup_cons] at q
        split at q
        · cases q
          exact .inr ⟨Nat.le_refl _, Heap.IsCell.keeps ⟨_, Heap.get?_push_size _ rfl, rfl⟩ (pushCells_keeps r _)⟩
        · exact .inl q
      · exact .inr ⟨by rw [hs] at q; omega, q.2⟩
    · rename_i hk
      rw [if_neg hk] at e
      exact cf_lookup r h acc n a e
theorem cf_apart : ∀ (names : List (Str × NameKind)) (k : Nat) (acc : List (Str × Addr)), (∀ n n' a, acc.lookup n = some a → acc.lookup n' = some a → n = n') → (∀ n a, acc.lookup n = some a → a < k) →
    ∀ n n' a, (cellsFrom k names acc).lookup n = some a → (cellsFrom k names acc).lookup n' = some a → n = n'
  | [], _, _, h, _ => h
  | (name, kind) :: r, k, acc, h, hl => by
    unfold cellsFrom
    split
    · refine cf_apart r (k + 1) ((name, k) :: acc) (fun n n' a e e' => ?_) fun n a e => ?_
      · rw [List.lookup_cons] at e e'
        cases h1 : n == name <;> cases h2 : n' == name <;> simp only [h1, h2] at e e'
        · exact h n n' a e e'
        · cases e'; exact absurd (hl _ _ e) (Nat.lt_irrefl _)
        · cases e; exact absurd (hl _ _ e') (Nat.lt_irrefl _)
        · exact (beq_iff_eq.mp h1).trans (beq_iff_eq.mp h2).symm
      · rw [List.lookup_cons] at e
        split at e
        · cases e; exact Nat.lt_succ_self _
        · exact Nat.lt_succ_of_lt (hl n a e)
    · exact cf_apart r k acc h hl
theorem cf_has : ∀ (names : List (Str × NameKind)) (k : Nat) (acc : List (Str × Addr)) (n : Str), (n, NameKind.cell) ∈ names ∨ (∃ a, acc.lookup n = some a) → ∃ a, (cellsFrom k names acc).lookup n = some a
  | [], _, _, _, h => by rcases h with h | h; cases h; exact h
  | (name, kind) :: r, k, acc, n, h => by
    unfold cellsFrom
    have hc : ∀ k, (∃ a, acc.lookup n = some a) → ∃ a, ((name, k) :: acc).lookup n = some a := fun k ⟨a, e⟩ => by
      rw [List.lookup_cons]; split
      · exact ⟨_, rfl⟩
      · exact ⟨a, e⟩
    split
    · rename_i hk
      refine cf_has r (k + 1) _ n ?_
      rcases h with h | h
      · rcases List.mem_cons.mp h with q | q
        · cases q; exact .inr ⟨k, by simp⟩
        · exact .inl q
      · exact .inr (hc k h)
    · rename_i hk
      refine cf_has r k _ n ?_
      rcases h with h | h
      · rcases List.mem_cons.mp h with q | q
        · cases q; simp at hk
        · exact .inl q
      · exact .inr h
theorem mem_lookup : ∀ {names : List (Str × NameKind)} {n : Str} {k : NameKind}, names.lookup n = some k → (n, k) ∈ names
  | (m, q) :: r, n, k, h => by
    rw [List.lookup_cons] at h
    split at h
    · rename_i hb; simp at hb; cases h; subst hb; exact List.mem_cons_self
    · exact List.mem_cons_of_mem _ (mem_lookup h)

/-- every name that is captured stands in a cell -/
def freeOk (scope : Scope) (env : Env) : Bool := scope.names.all fun p => p.2 != .free || (env.kindOf p.1 == some .cell || env.kindOf p.1 == some .free)

theorem closureFor_ok {scope : Scope} {env : Env} (hh : ∀ n, env.kindOf n = some .cell ∨ env.kindOf n = some .free → ∃ a, env.cells.lookup n = some a) (hf : freeOk scope env = true) :
    ∃ cl, closureFor scope env = pure cl ∧ (∀ n, (n, NameKind.free) ∈ scope.names → ∃ a, cl.lookup n = some a) ∧ (∀ n a, cl.lookup n = some a → env.cells.lookup n = some a) := by
  have go : ∀ (names : List (Str × NameKind)) (acc : List (Str × Addr)), (names.all fun p => p.2 != .free || (env.kindOf p.1 == some .cell || env.kindOf p.1 == some .free)) = true → (∀ n a, acc.lookup n = some a → env.cells.lookup n = some a) →
      ∃ cl, (forIn names acc fun (x : Str × NameKind) r => (match x with | (name, kind) => if (kind == .free) = true then do let a ← cellOf env name; pure (ForInStep.yield ((name, a) :: r)) else pure (ForInStep.yield r) : Sem (ForInStep (List (Str × Addr))))) = pure cl ∧
        (∀ n, (n, NameKind.free) ∈ names ∨ (∃ a, acc.lookup n = some a) → ∃ a, cl.lookup n = some a) ∧ (∀ n a, cl.lookup n = some a → env.cells.lookup n = some a) := by
    intro names
    induction names with
    | nil => intro acc _ ha; exact ⟨acc, rfl, fun n h => by rcases h with h | h; cases h; exact h, ha⟩
    | cons p r ih =>
      intro acc h ha
      obtain ⟨name, kind⟩ := p
      rw [List.all_cons, Bool.and_eq_true] at h
      obtain ⟨h1, h2⟩ := h
      rw [List.forIn_cons]
      by_cases hk : (kind == NameKind.free) = true
      · have hk' : kind = .free := by simpa using hk
        subst hk'
        obtain ⟨a, e⟩ : ∃ a, env.cells.lookup name = some a := hh name (by simpa using h1)
        have e2 : cellOf env name = pure a := by unfold cellOf; rw [e]
        obtain ⟨cl, q1, q2, q3⟩ := ih ((name, a) :: acc) h2 (fun n b q => by
          rw [List.lookup_cons] at q
          split at q
          · rename_i hb; simp at hb; cases q; subst hb; exact e
          · exact ha n b q)
        refine ⟨cl, ?_, fun n q => q2 n ?_, q3⟩
        · simp only [beq_self_eq_true, if_true, e2, pure_bind]; exact q1
        · rcases q with q | ⟨b, q⟩
          · rcases List.mem_cons.mp q with z | z
            · cases z; exact .inr ⟨a, by simp⟩
            · exact .inl z
          · refine .inr ?_
            rw [List.lookup_cons]; split
            · exact ⟨_, rfl⟩
            · exact ⟨b, q⟩
      · obtain ⟨cl, q1, q2, q3⟩ := ih acc h2 ha
        refine ⟨cl, ?_, fun n q => q2 n ?_, q3⟩
        · simp only [Bool.not_eq_true] at hk
          simp only [hk, Bool.false_eq_true, if_false, pure_bind]; exact q1
        · rcases q with q | q
          · rcases List.mem_cons.mp q with z | z
            · cases z; simp at hk
            · exact .inl z
          · exact .inr q
  obtain ⟨cl, q1, q2, q3⟩ := go scope.names [] hf (fun n a e => by simp at e)
  refine ⟨cl, ?_, fun n h => q2 n (.inl h), q3⟩
  unfold closureFor
  simp only [q1, pure_bind]

/-- a comprehension's own block -/
def cenvOf (scope : Scope) (env : Env) (C : Addr) (cl : List (Str × Addr)) : Env :=
  { scope := relabel scope env, locals := C, globals := env.globals, cells := cl, qual := env.qual, func := none, code := env.code, frame := env.frame, builtins := env.builtins }

/-- the names that it captures -/
def capt (scope : Scope) (ρ : Vars) : Vars := ρ.filter fun p => scope.names.lookup p.1 == some .free && !(p.1 == ("__classdict__" : Str))

theorem lookup_capt {scope : Scope} {x : Str} {d : D} : ∀ {ρ : Vars}, (capt scope ρ).lookup x = some d → ρ.lookup x = some d ∧ scope.names.lookup x = some .free ∧ (x == ("__classdict__" : Str)) = false
  | [], h => by simp [capt] at h
  | (y, e) :: r, h => by
    have ih := @lookup_capt scope x d r
    unfold capt at h ih
    rw [List.filter_cons] at h
    by_cases hy : x = y
    · subst hy
      split at h
      · rename_i hp
        simp only [List.lookup_cons, beq_self_eq_true] at h
        cases h
        simp at hp
        exact ⟨by simp, hp.1, by simpa using hp.2⟩
      · rename_i hp
        obtain ⟨_, b, c'⟩ := ih h
        exact absurd (by rw [b, c']; rfl) hp
    · have hy' : (x == y) = false := by simpa using hy
      split at h
      · rw [List.lookup_cons, hy'] at h
        obtain ⟨a, b⟩ := ih h
        exact ⟨by rw [List.lookup_cons, hy']; exact a, b⟩
      · obtain ⟨a, b⟩ := ih h
        exact ⟨by rw [List.lookup_cons, hy']; exact a, b⟩

theorem relabel_free {env : Env} {x : Str} : ∀ {names : List (Str × NameKind)}, names.lookup x = some .free →
    (names.map fun (n, k) => if (k == NameKind.free && env.scope.kind == .function && env.kindOf n == some .cell) then (n, NameKind.cell) else (n, k)).lookup x = some .cell ∨
    (names.map fun (n, k) => if (k == NameKind.free && env.scope.kind == .function && env.kindOf n == some .cell) then (n, NameKind.cell) else (n, k)).lookup x = some .free
  | [], h => by simp at h
  | (n, k) :: r, h => by
    have ih := @relabel_free env x r
    rw [List.map_cons]
    cases hx : x == n with
    | true =>
      simp only [List.lookup_cons, hx] at h
      cases h
      by_cases hc : (NameKind.free == NameKind.free && env.scope.kind == .function && env.kindOf n == some .cell) = true
      · left; simp only [hc, if_true]; rw [List.lookup_cons, hx]
      · right; simp only [hc, Bool.false_eq_true, if_false]; rw [List.lookup_cons, hx]
    | false =>
      simp only [List.lookup_cons, hx] at h
      have h' := ih h
      by_cases hc : (k == NameKind.free && env.scope.kind == .function && env.kindOf n == some .cell) = true
      · simp only [hc, if_true, List.lookup_cons, hx]; exact h'
      · simp only [hc, Bool.false_eq_true, if_false, List.lookup_cons, hx]; exact h'
theorem relabel_mem {env : Env} {names : List (Str × NameKind)} {x : Str} {k : NameKind}
    (h : (x, k) ∈ names.map fun (n, k) => if (k == NameKind.free && env.scope.kind == .function && env.kindOf n == some .cell) then (n, NameKind.cell) else (n, k)) : (x, k) ∈ names ∨ (x, NameKind.free) ∈ names := by
  obtain ⟨⟨n, q⟩, hm, e⟩ := List.mem_map.mp h
  dsimp only at e
  split at e
  · rename_i hc
    cases e
    simp at hc
    obtain ⟨⟨rfl, _⟩, _⟩ := hc
    exact .inr hm
  · cases e; exact .inl hm

section
variable {M : Model} {A : Around} {E : Value → Shared → Prop} {s : Shared}
theorem newBlock {scope : Scope} {env : Env} {cl : List (Str × Addr)} {Q : Env → Shared → Prop}
    (h : Q { scope := scope, locals := s.heap.objs.size, globals := env.globals, cells := cellsFrom (s.heap.objs.size + 1) scope.names cl, qual := env.qual, func := none, code := env.code, frame := env.frame, builtins := env.builtins }
      { s with heap := pushCells (s.heap.push { cls := .type "dict", data := .dict #[] }) scope.names }) :
    wpAny M A (newFunctionEnv scope env.globals cl [] env.qual none .none (some env)) Q E s := by
  simp only [newFunctionEnv, Option.isSome_some, if_true]
  refine wpAny_bind (wpAny_alloc ?_)
  refine wpAny_bind (wpAny_layCells _ (fun name kind cells => by cases hkc : kind == NameKind.cell <;> simp [hkc]) _ _ _ _ ?_)
  rw [show ({ s with heap := s.heap.push { cls := .type "dict", data := .dict #[] } } : Shared).heap.objs.size = s.heap.objs.size + 1 from Heap.size_push ..]
  refine wpAny_bind ?_
  rw [List.forIn_nil]
  exact wpAny_pure (wpAny_pure h)
end
end Mine
end

/-! # M5 -/
section
set_option autoImplicit false
namespace Mine
open PySem PySem.Calls PyProof.Rows

/-- what was kept apart for a while is let go -/
theorem St.dropX {c : Cx} {X₀ : Addr → Prop} {env : Env} {ρ : Vars} {μ : Mem} {s s' : Shared} {wr : List Addr} (S : St c (fun a => X₀ a ∨ a ∈ wr) env ρ μ s) (k : ∀ b o, b ∉ wr → s.heap.get? b = some o → s'.heap.get? b = some o)
    (hw : ∀ b ∈ wr, ¬ X₀ b) (hm : ∀ b ∈ wr, ¬ Mut env μ b) (hb : ∀ b ∈ wr, c.base.get? b = none) : St c X₀ env ρ μ s' := by
  have S₀ : St c X₀ env ρ μ s := S.reX fun a h => .inl h
  have hx : ∀ a o, ¬ XOf (fun a => X₀ a ∨ a ∈ wr) env μ a → s.heap.get? a = some o → ¬ XOf X₀ env μ a ∧ s'.heap.get? a = some o := fun a o q e => ⟨fun y => q (y.imp .inl id), k a o (fun w => q (.inl (.inr w))) e⟩
  have hM : ∀ a o, Mut env μ a → s.heap.get? a = some o → s'.heap.get? a = some o := fun a o m e => k a o (fun w => hm a w m) e
  refine { S₀ with base := fun a o e => k a o (fun w => ?_) (S₀.base a o e), live := fun a q => ?_, ns := ?_, cel := fun n a h => ?_, vars := fun x d e => ?_, mem := fun a ds m => ?_ }
  · rw [hb a w] at e; cases e
  · obtain ⟨o', e'⟩ := S.live a (.inl q); exact ⟨o', k a o' (fun w => hw a w q) e'⟩
  · obtain ⟨m, o, es, ep, e, r⟩ := S₀.ns
    exact ⟨m, o, es, ep, hM _ _ (.inl rfl) e, r⟩
  · obtain ⟨ov, o, e, r⟩ := S₀.cel n a h
    exact ⟨ov, o, hM _ _ (.inr (.inl ⟨n, h⟩)) e, r⟩
  · obtain ⟨v, a, b⟩ := S.vars x d e
    refine ⟨v, ?_, b.mono hx⟩
    rcases a with ⟨a, m, ⟨o, es, ep, e', r⟩, q⟩ | ⟨a, c', q, o, e', r⟩
    · exact .inl ⟨a, m, ⟨o, es, ep, hM _ _ (.inl rfl) e', r⟩, q⟩
    · exact .inr ⟨a, c', q, o, hM _ _ (.inr (.inl ⟨x, q⟩)) e', r⟩
  · obtain ⟨vs, ⟨o, e, y⟩, b⟩ := S.mem a ds m
    exact ⟨vs, ⟨o, hM _ _ (.inr (.inr ⟨ds, m⟩)) e, y⟩, b.mono hx⟩

theorem cf_other : ∀ (names : List (Str × NameKind)) (k : Nat) (acc : List (Str × Addr)) (n : Str), (∀ p ∈ names, p.2 = NameKind.cell → p.1 ≠ n) → (cellsFrom k names acc).lookup n = acc.lookup n
  | [], _, _, _, _ => rfl
  | (name, kind) :: r, k, acc, n, h => by
    have ih := fun k acc => cf_other r k acc n fun p hp => h p (List.mem_cons_of_mem _ hp)
    unfold cellsFrom
    split
    · rename_i hk
      have hk' : kind = .cell := by simpa using hk
      rw [ih, List.lookup_cons]
      have : (n == name) = false := by simpa using fun e => h (name, kind) List.mem_cons_self hk' (Eq.symm e)
      rw [this]
    · exact ih k acc

/-- the tests of a comprehension -/
def Tests (c : Cx) (k : Nat) (env : Env) (ρ : Vars) (ifs : List Expr) (b : Bool) : Prop :=
  ∀ X A s E, Room k A → Rc c X env ρ [] s → wpAny (model c.prog c.w) A (forIn ifs true fun c r => if r = true then do let ok ← isTrue c env (eval c env); pure (ForInStep.yield ok) else pure (ForInStep.yield r)) (fun ok s' => Kp s s' ∧ ok = b) E s
theorem tests_nil {c : Cx} {k : Nat} {env : Env} {ρ : Vars} : Tests c k env ρ [] true := fun _ _ s _ _ _ => by
  rw [List.forIn_nil]; exact wpAny_pure ⟨Kp.refl s, rfl⟩
theorem tests_one {c : Cx} {k : Nat} {env : Env} {ρ : Vars} {e : Expr} {b : Bool} (h : Tr c k env ρ [] e b) : Tests c k env ρ [e] b := fun X A s E hA R => by
  rw [List.forIn_cons]
  simp only [if_true]
  refine wpAny_bind (wpAny_bind (wpAny_mono (h X A s E hA R) (fun v s' q => wpAny_pure ?_) fun _ _ e => e))
  simp only [List.forIn_nil]
  exact wpAny_pure q

def compOk (scope : Scope) (env : Env) (x : Str) : Bool := freeOk scope env && (scope.kind == .function) && (scope.names.lookup x == some .local || scope.names.lookup x == some .cell) &&
  scope.names.all fun p => (p.2 != .cell || p.1 == x) && (p.2 != .free || !(p.1 == x)) && (p.2 != .local || scope.names.lookup p.1 == some .local)

structure CompOk (scope : Scope) (env : Env) (x : Str) : Prop where
  free : freeOk scope env = true
  kind : scope.kind = .function
  tgt : scope.names.lookup x = some .local ∨ scope.names.lookup x = some .cell
  cell : ∀ p ∈ scope.names, p.2 = .cell → p.1 = x
  nfree : ∀ p ∈ scope.names, p.2 = .free → p.1 ≠ x
  names : ∀ p ∈ scope.names, p.2 = .local → scope.names.lookup p.1 = some .local
theorem CompOk.of {scope : Scope} {env : Env} {x : Str} (h : compOk scope env x = true) : CompOk scope env x := by
  unfold compOk at h
  simp only [Bool.and_eq_true, Bool.or_eq_true, List.all_eq_true, beq_iff_eq, bne_iff_ne, Bool.not_eq_true'] at h
  obtain ⟨⟨⟨h1, h2⟩, h3⟩, h4⟩ := h
  refine ⟨h1, h2, h3, fun p hp e => ?_, fun p hp e => ?_, fun p hp e => ?_⟩
  · rcases (h4 p hp).1.1 with q | q
    · exact absurd e q
    · exact q
  · rcases (h4 p hp).1.2 with q | q
    · exact absurd e q
    · simpa using q
  · rcases (h4 p hp).2 with q | q
    · exact absurd e q
    · exact q

theorem relabel_cell {env : Env} {x : Str} : ∀ {names : List (Str × NameKind)}, names.lookup x = some .cell →
    (names.map fun (n, k) => if (k == NameKind.free && env.scope.kind == .function && env.kindOf n == some .cell) then (n, NameKind.cell) else (n, k)).lookup x = some .cell
  | [], h => by simp at h
  | (n, k) :: r, h => by
    have ih := @relabel_cell env x r
    rw [List.map_cons]
    cases hx : x == n with
    | true =>
      simp only [List.lookup_cons, hx] at h
      cases h
      simp [List.lookup_cons, hx]
    | false =>
      simp only [List.lookup_cons, hx] at h
      by_cases hc : (k == NameKind.free && env.scope.kind == .function && env.kindOf n == some .cell) = true
      · simp only [hc, if_true, List.lookup_cons, hx]; exact ih h
      · simp only [hc, Bool.false_eq_true, if_false, List.lookup_cons, hx]; exact ih h

section
variable {c : Cx} {k : Nat} {env : Env} {ρ : Vars} {μ : Mem} {elt iter : Expr} {x : Str} {px : Pos} {ifs : List Expr} {scope : Scope} {pos : Pos} {ds : List D} {p : D → Bool} {f : D → D}

theorem comp_core {X : Addr → Prop} {A : Around} {E : Value → Shared → Prop} {s s₂ : Shared} {I : Addr} {fp wr : List Addr} {P : Nat → Value → Prop} {W : Nat → Heap → Prop} {cl : List (Str × Addr)} {RR : Value → Addr → Result → Shared → Prop}
    (hA : Room k A) (R : Rc c X env ρ μ s) (O : SrcOf c X A ds s s₂ I fp wr P W) (ok : CompOk scope env x) (hlen : ds.length ≤ 16777216)
    (hcl1 : ∀ n, (n, NameKind.free) ∈ scope.names → ∃ a, cl.lookup n = some a) (hcl2 : ∀ n a, cl.lookup n = some a → env.cells.lookup n = some a ∧ (n, NameKind.free) ∈ scope.names)
    (tests : ∀ C cl d, d ∈ ds → Tests c k (cenvOf scope env C cl) ((x, d) :: capt scope ρ) ifs (p d))
    (elts : ∀ C cl d, d ∈ ds → p d = true → Ev c k (cenvOf scope env C cl) ((x, d) :: capt scope ρ) [] elt (f d))
    (hRR : ∀ D C s', s₂.heap.get? D = none → s₂.heap.get? C = none → D ≠ C → (∃ m, s'.heap.Ns C m) → Rd (fun a => X a ∨ a = C) s'.heap (.ref D) (.list ((ds.filter p).map f)) → Kp s s' → RR (.ref D) C (.ok .next) s') :
    wpAny (model c.prog c.w) A (newList []) (fun acc s₃ => wpAny (model c.prog c.w) A (newFunctionEnv scope env.globals cl [] env.qual none .none (some env)) (fun cenv s₄ =>
      codeAny (model c.prog c.w) A (.compStart (.ListComp elt [⟨.Name x px, iter, ifs, 0⟩] scope pos) 0 (.ref I) acc { cenv with scope := relabel scope env }) (RR acc cenv.locals) s₄) E s₃) E s₂ := by
  refine wpAny_newObj_type (newBlock ?_)
  dsimp only
  generalize hD : s₂.heap.objs.size = D
  generalize hH : s₂.heap.push { cls := .type "list", dict := none, data := .seq ([] : List Value).toArray } = H
  have hC : H.objs.size = D + 1 := by rw [← hH, Heap.size_push, hD]
  generalize hcells : cellsFrom (H.objs.size + 1) scope.names cl = cells
  generalize hh₄ : pushCells (H.push { cls := .type "dict", data := .dict #[] }) scope.names = h₄
  rw [hC] at hcells ⊢
  -- facts of the start
  have old₂ : ∀ (b : Nat) o, s₂.heap.get? b = some o → b < D := fun b o e => hD ▸ Heap.lt_size e
  have new₂ : ∀ (b : Nat), D ≤ b → s₂.heap.get? b = none := fun b hb => by
    cases e : s₂.heap.get? b with
    | none => rfl
    | some o => exact absurd (old₂ b o e) (Nat.not_lt.mpr hb)
  have hsz : (H.push { cls := .type "dict", data := .dict #[] }).objs.size = D + 2 := by rw [Heap.size_push, hC]
  have k₄ : ∀ b o, s₂.heap.get? b = some o → h₄.get? b = some o := fun b o e => hh₄ ▸ pushCells_keeps _ _ b o (Heap.get?_push_of_some _ (hH ▸ Heap.get?_push_of_some _ e))
  have hk₄ : Kp s { s₂ with heap := h₄ } := O.kp.trans (Kp.heap s₂ h₄ s₂.toks k₄)
  have hcells' : cells = cellsFrom (H.push { cls := .type "dict", data := .dict #[] }).objs.size scope.names cl := by rw [hsz, ← hcells]
  have look : ∀ n (a : Nat), cells.lookup n = some a → (cl.lookup n = some a) ∨ (D + 2 ≤ a ∧ h₄.IsCell a none) := fun n a e => by
    rw [hcells'] at e
    rcases cf_lookup _ _ _ _ _ e with q | q
    · exact .inl q
    · rw [hsz, hh₄] at q; exact .inr q
  have clLive : ∀ n (a : Nat), cl.lookup n = some a → X a ∧ c.base.get? a = none ∧ (∃ ov, s.heap.IsCell a ov) ∧ a < D := fun n a e => by
    obtain ⟨x1, x2, ov, x3⟩ := R.cel n a (hcl2 n a e).1
    obtain ⟨o, e', r⟩ := x3
    exact ⟨x1, x2, ⟨ov, o, e', r⟩, old₂ a o (O.kp.sub a o e')⟩
  have baseD : ∀ (b : Nat), D ≤ b → c.base.get? b = none := fun b hb => by
    cases e : c.base.get? b with
    | none => rfl
    | some o => have := O.kp.sub b o (R.base b o e); rw [new₂ b hb] at this; cases this
  have wrD : ∀ (b : Nat), b ∈ wr → b < D := fun b hb => let ⟨o, e⟩ := O.wrLive 0 _ O.start b hb; old₂ b o e
  have wrBase : ∀ b ∈ wr, c.base.get? b = none := fun b hb => by
    cases e : c.base.get? b with
    | none => rfl
    | some o => have := R.base b o e; rw [O.new b hb] at this; cases this
  have hMut : ∀ (a : Nat), Mut (cenvOf scope env (D + 1) cells) [] a → a = D + 1 ∨ D + 2 ≤ a ∨ (X a ∧ ∃ o, s.heap.get? a = some o) := fun a m => by
    rcases m with m | ⟨n, m⟩ | ⟨_, m⟩
    · exact .inl m
    · rcases look n a m with q | q
      · obtain ⟨x1, _, ⟨_, o, e, _⟩, _⟩ := clLive n a q; exact .inr (.inr ⟨x1, o, e⟩)
      · exact .inr (.inl q.1)
    · cases m
  have hDM : ¬ Mut (cenvOf scope env (D + 1) cells) [] D := fun m => by
    rcases hMut D m with q | q | ⟨_, o, e⟩
    · omega
    · omega
    · have := O.kp.sub D o e; rw [new₂ D (Nat.le_refl _)] at this; cases this
  have hwM : ∀ (b : Nat), b ∈ wr → ¬ Mut (cenvOf scope env (D + 1) cells) [] b := fun b hb m => by
    have := wrD b hb
    rcases hMut b m with q | q | ⟨_, o, e⟩
    · omega
    · omega
    · rw [O.new b hb] at e; cases e
  have hfM : ∀ (b : Nat), b ∈ fp → ¬ Mut (cenvOf scope env (D + 1) cells) [] b := fun b hb m => by
    obtain ⟨q1, o, e⟩ := O.foot b hb
    have := old₂ b o e
    rcases hMut b m with q | q | ⟨q, o', e'⟩
    · omega
    · omega
    · rcases q1 with w | w
      · rw [O.new b w] at e'; cases e'
      · exact w q
  -- the block's state
  generalize hcenv : cenvOf scope env (D + 1) cells = cenv at hMut hDM hwM hfM
  have hX₁ : ∀ (a : Nat) o, ¬ X a → s.heap.get? a = some o → ¬ XOf (fun a => X a ∨ a ∈ D :: wr) cenv [] a ∧ h₄.get? a = some o := fun a o n e => by
    have e2 := O.kp.sub a o e
    have := old₂ a o e2
    refine ⟨?_, k₄ a o e2⟩
    rintro ((y | y) | y)
    · exact n y
    · rcases List.mem_cons.mp y with y | y
      · exact absurd y (Nat.ne_of_lt this)
      · rw [O.new a y] at e; cases e
    · rcases hMut a y with q | q | ⟨q, _⟩
      · omega
      · omega
      · exact n q
  have S₄ : St c (fun a => X a ∨ a ∈ D :: wr) cenv (capt scope ρ) [] { s₂ with heap := h₄ } := by
    subst hcenv
    refine ⟨⟨ok.kind, R.ok.globals, R.ok.builtins, fun n h => ?_⟩, R.base.trans hk₄.sub, fun a m => ?_, fun a h => ?_, ?_, fun n a h => ?_, fun n n' a h h' => ?_, fun y d e => ?_, fun a ds m => ?_, List.nodup_nil, fun _ _ m => (nomatch m)⟩
    · have hm : (n, NameKind.cell) ∈ scope.names ∨ (n, NameKind.free) ∈ scope.names := by
        rcases h with h | h
        · exact relabel_mem (mem_lookup h)
        · exact (relabel_mem (mem_lookup h)).elim .inr .inr
      show ∃ a, cells.lookup n = some a
      rw [← hcells]
      exact cf_has _ _ _ _ (hm.imp id (hcl1 n))
    · rcases m with m | ⟨n, m⟩ | ⟨_, m⟩
      · exact baseD a (by have : (a : Nat) = D + 1 := m; exact this ▸ Nat.le_succ D)
      · rcases look n a m with q | q
        · exact (clLive n a q).2.1
        · exact baseD a (Nat.le_trans (by omega) q.1)
      · cases m
    · rcases h with h | h
      · obtain ⟨o, e⟩ := R.live a h; exact ⟨o, hk₄.sub a o e⟩
      · rcases List.mem_cons.mp h with h | h
        · subst h
          exact ⟨_, hh₄ ▸ pushCells_keeps _ _ _ _ (Heap.get?_push_of_some _ (hH ▸ hD ▸ Heap.get?_push_size _ rfl))⟩
        · obtain ⟨o, e⟩ := O.wrLive 0 _ O.start a h; exact ⟨o, k₄ a o e⟩
    · refine ⟨fun _ => none, ?_⟩
      · have := (Heap.Ns.new H (.type "dict")).keeps (pushCells_keeps scope.names (H.push { cls := .type "dict", data := .dict #[] }))
        rw [hh₄, hC] at this
        exact this
    · rcases look n a h with q | q
      · obtain ⟨_, _, ⟨ov, x3⟩, _⟩ := clLive n a q; exact ⟨ov, x3.keeps hk₄.sub⟩
      · exact ⟨_, q.2⟩
    · have h1 : cells.lookup n = some a := h
      have h2 : cells.lookup n' = some a := h'
      rw [← hcells] at h1 h2
      refine cf_apart _ _ _ (fun m m' b e e' => R.apart m m' b (hcl2 m b e).1 (hcl2 m' b e').1) (fun m b e => ?_) n n' a h1 h2
      exact Nat.lt_of_lt_of_le (clLive m b e).2.2.2 (by omega)
    · obtain ⟨e1, e2, e3⟩ := lookup_capt e
      obtain ⟨v, hv, hr⟩ := R.vars y d e1
      have hm := mem_lookup e2
      have hfr : env.kindOf y = some .cell ∨ env.kindOf y = some .free := by
        have h1 := List.all_eq_true.mp ok.free _ hm
        simpa using h1
      refine ⟨v, ?_, hr.mono hX₁⟩
      rcases hv with ⟨a, _⟩ | ⟨_, a, ha, hc⟩
      · rcases hfr with q | q <;> rw [q] at a <;> cases a
      · refine .inr ⟨?_, a, ?_, hc.keeps hk₄.sub⟩
        · rcases relabel_free (env := env) e2 with q | q
          · exact .inl q
          · exact .inr ⟨q, e3⟩
        · show cells.lookup y = some a
          rw [← hcells, cf_other _ _ _ _ (fun q hq hc' e' => ok.nfree _ hm rfl (e'.symm.trans (ok.cell q hq hc')))]
          obtain ⟨b, hb⟩ := hcl1 y hm
          rw [hb, ← (hcl2 y b hb).1, ha]
    · cases m
  -- the target is its own
  have hst : stor cenv x = true := by
    subst hcenv
    rcases ok.tgt with q | q
    · have : (cenvOf scope env (D + 1) cells).kindOf x = some .local := lookup_relabel_local q
      unfold stor; rw [this]
    · have : (cenvOf scope env (D + 1) cells).kindOf x = some .cell := relabel_cell q
      unfold stor; rw [this]
  have haddr : D + 1 ≤ addrOf cenv x := by
    subst hcenv
    unfold addrOf
    split
    · exact Nat.le_refl _
    · rename_i hnl
      rcases ok.tgt with q | q
      · exact absurd (lookup_relabel_local q) hnl
      · obtain ⟨a, ha⟩ := cf_has scope.names (D + 1 + 1) cl x (.inl (mem_lookup q))
        rw [hcells] at ha
        show D + 1 ≤ (cells.lookup x).getD 0
        rw [ha]
        rcases look x a ha with z | z
        · exact absurd rfl (ok.nfree _ (hcl2 x a z).2 rfl)
        · show D + 1 ≤ a; omega
  have list₄ : h₄.IsList D #[] := ⟨_, hh₄ ▸ pushCells_keeps _ _ _ _ (Heap.get?_push_of_some _ (hH ▸ hD ▸ Heap.get?_push_size _ rfl)), rfl, _, rfl⟩
  have hst₀ : W 0 h₄ := O.walks.frame _ _ _ O.start fun b hb o e => k₄ b o e
  have hDwr : D ∉ wr := fun h => Nat.lt_irrefl _ (wrD D h)
  have loop : codeAny (model c.prog c.w) A (.compLoop (.ListComp elt [⟨.Name x px, iter, ifs, 0⟩] scope pos) 0 (.ref I) (.ref D) cenv) (RR (.ref D) (D + 1)) { s₂ with heap := h₄ } := by
    refine codeAny_compLoop_tests
      (fun n s' => ∃ i ys, i ≤ ds.length ∧ n = ds.length + 1 - i ∧ W i s'.heap ∧ St c (fun a => X a ∨ a ∈ D :: wr) cenv (capt scope ρ) [] s' ∧ s'.heap.IsList D ys ∧ RdAll (XOf (fun a => X a ∨ a ∈ D :: wr) cenv []) s'.heap ys.toList (((ds.take i).filter p).map f) ∧
        Same s₂ s' ∧ (∀ b o, b ∉ wr → s₂.heap.get? b = some o → s'.heap.get? b = some o)) ?_ (ds.length + 1)
      ⟨0, #[], Nat.zero_le _, rfl, hst₀, S₄, list₄, by simpa using RdAll.nil, ⟨rfl, rfl⟩, fun b o _ e => k₄ b o e⟩
    rintro n s' ⟨i, ys, hle, rfl, hW, S', hl, hr, hs', K2⟩
    by_cases hlt : i < ds.length
    · refine O.walks.item i s' _ _ hlt hW fun v h' tk hP hW' hk => ?_
      have hwl := O.wrLive _ _ hW'
      have S₅ : St c (fun a => X a ∨ a ∈ D :: wr) cenv (capt scope ρ) [] { s' with heap := h', toks := tk } :=
        S'.inX (s' := { s' with heap := h', toks := tk }) hk (fun b hb => .inr (List.mem_cons_of_mem _ hb)) hwl hwM wrBase
      have K5 : ∀ b o, b ∉ wr → s₂.heap.get? b = some o → h'.get? b = some o := fun b o w e => hk b o w (K2 b o w e)
      have hd : ds[i]? = some ds[i] := by simp [hlt]
      have hmem : ds[i] ∈ ds := List.getElem_mem hlt
      have r₅ : Rd (XOf (fun a => X a ∨ a ∈ D :: wr) cenv []) h' v ds[i] := (O.item i _ v hd hP).mono fun (a : Nat) o n e => by
        have nw : a ∉ wr := fun w => n (.inr w)
        have := old₂ a o e
        refine ⟨?_, K5 a o nw e⟩
        rintro ((y | y) | y)
        · exact n (.inl y)
        · rcases List.mem_cons.mp y with y | y
          · exact absurd y (Nat.ne_of_lt this)
          · exact nw y
        · rcases hMut a y with q | q | ⟨q, _⟩
          · omega
          · omega
          · exact n (.inl q)
      refine wpAny_assign_Name (st_store' S₅ hst r₅ fun s₆ S₆ g₆ hsb => ?_)
      have hW₆ : W (i + 1) s₆.heap := O.walks.frame _ _ _ hW' fun b hb o e => g₆.keep b o (hfM b hb) e
      have K6 : ∀ b o, b ∉ wr → s₂.heap.get? b = some o → s₆.heap.get? b = some o := fun b o w e => hsb.extBut b o (Nat.ne_of_lt (Nat.lt_of_lt_of_le (old₂ b o e) (Nat.le_trans (Nat.le_succ _) haddr))) (K5 b o w e)
      have hl₆ : s₆.heap.IsList D ys := by
        obtain ⟨o, e, q⟩ := hl
        exact ⟨o, g₆.keep D o hDM (hk D o hDwr e), q⟩
      have hr₆ : RdAll (XOf (fun a => X a ∨ a ∈ D :: wr) cenv []) s₆.heap ys.toList (((ds.take i).filter p).map f) := hr.mono fun a o n e =>
        ⟨n, g₆.keep a o (fun m => n (.inr m)) (hk a o (fun w => n (.inl (.inr (List.mem_cons_of_mem _ w)))) e)⟩
      have hs₆ : Same s₂ s₆ := hs'.trans ⟨g₆.same.os, g₆.same.gens⟩
      have htake : ds.take (i + 1) = ds.take i ++ [ds[i]] := by rw [List.take_add_one, hd]; rfl
      refine wpAny_mono (hcenv ▸ tests (D + 1) cells ds[i] hmem _ A s₆ _ hA (hcenv ▸ S₆.rc)) (fun b s₇ q => ?_) fun _ _ e => e
      obtain ⟨k₇, rfl⟩ := q
      have S₇ := S₆.kp k₇
      have hW₇ : W (i + 1) s₇.heap := O.walks.frame _ _ _ hW₆ fun b hb o e => k₇.sub b o e
      have hs₇ : Same s₂ s₇ := hs₆.trans k₇.same
      have hl₇ : s₇.heap.IsList D ys := by obtain ⟨o, e, q⟩ := hl₆; exact ⟨o, k₇.sub D o e, q⟩
      cases hp : p ds[i] with
      | false =>
        simp only [Bool.false_eq_true, if_false]
        refine ⟨ds.length + 1 - (i + 1), by omega, i + 1, ys, hlt, rfl, hW₇, S₇.weak (fun y d e => ?_), hl₇, ?_, hs₇, fun b o w e => k₇.sub b o (K6 b o w e)⟩
        · rw [List.lookup_cons]
          have : (y == x) = false := by
            cases hb : y == x with
            | false => rfl
            | true => simp at hb; subst hb; exact absurd rfl (ok.nfree _ (mem_lookup (lookup_capt e).2.1) rfl)
          rw [this]; exact e
        · rw [htake, List.filter_append]; simpa [hp] using hr₆.keep k₇.sub
      | true =>
        simp only [if_true]
        refine gives_bind (hcenv ▸ elts (D + 1) cells ds[i] hmem hp _ A s₇ hA (hcenv ▸ S₇.rc)) fun u s₈ k₈ r₈ => ?_
        have hl₈ : s₈.heap.IsList D ys := by obtain ⟨o, e, q⟩ := hl₇; exact ⟨o, k₈.sub D o e, q⟩
        have hys : ys.size ≤ sizeLine := by
          have h1 := hr.length
          have h2 : ((ds.take i).filter p).length ≤ (ds.take i).length := List.length_filter_le _ _
          rw [List.length_map] at h1
          rw [List.length_take] at h2
          have h3 : ys.toList.length = ys.size := by simp
          rw [sizeLine_eq]; omega
        refine wpAny_list_append (hsz := hys) hl₈ fun h₉ hl₉ hs₉ => ?_
        have S₉ : St c (fun a => X a ∨ a ∈ D :: wr) cenv ((x, ds[i]) :: capt scope ρ) [] { s₈ with heap := h₉ } :=
          (S₇.kp k₈).inX (s' := { s₈ with heap := h₉ }) (wr := [D]) (fun b o w e => hs₉.extBut b o (by simpa using w) e) (fun b hb => by simp at hb; subst hb; exact .inr List.mem_cons_self)
            (fun b hb => by simp at hb; subst hb; obtain ⟨o, e, _⟩ := hl₉; exact ⟨o, e⟩) (fun b hb => by simp at hb; subst hb; exact hDM) (fun b hb => by simp at hb; subst hb; exact baseD b (Nat.le_refl _))
        have hXD : XOf (fun a => X a ∨ a ∈ D :: wr) cenv [] D := .inl (.inr List.mem_cons_self)
        refine ⟨ds.length + 1 - (i + 1), by omega, i + 1, ys.push u, hlt, rfl, ?_, S₉.weak (fun y d e => ?_), hl₉, ?_, ?_, fun b o w e => hs₉.extBut b o (Nat.ne_of_lt (old₂ b o e)) (k₈.sub b o (k₇.sub b o (K6 b o w e)))⟩
        · exact O.walks.frame _ _ _ hW₇ fun b hb o e => hs₉.extBut b o (by obtain ⟨_, o', e'⟩ := O.foot b hb; exact Nat.ne_of_lt (old₂ b o' e')) (k₈.sub b o e)
        · rw [List.lookup_cons]
          have : (y == x) = false := by
            cases hb : y == x with
            | false => rfl
            | true => simp at hb; subst hb; exact absurd rfl (ok.nfree _ (mem_lookup (lookup_capt e).2.1) rfl)
          rw [this]; exact e
        · rw [htake, List.filter_append, Array.toList_push]
          have h1 := ((hr₆.keep k₇.sub).keep k₈.sub).but hXD hs₉
          have h2 : Rd (XOf (fun a => X a ∨ a ∈ D :: wr) cenv []) h₉ u (f ds[i]) := r₈.but hXD hs₉
          simpa [hp] using h1.append (.cons h2 .nil)
        · exact (hs₇.trans k₈.same).trans ⟨rfl, rfl⟩
    · have hin : i = ds.length := by omega
      refine O.walks.done s' _ _ (hin ▸ hW) fun h' tk hk => ?_
      have hk' : Kp s { s' with heap := h', toks := tk } := by
        refine ⟨fun b o e => ?_, (O.kp.same.trans hs').trans ⟨rfl, rfl⟩⟩
        have w : b ∉ wr := fun w => by rw [O.new b w] at e; cases e
        exact hk b o w (K2 b o w (O.kp.sub b o e))
      refine hRR D (D + 1) _ (new₂ D (Nat.le_refl _)) (new₂ _ (Nat.le_succ _)) (Nat.ne_of_lt (Nat.lt_succ_self _)) ?_ ?_ hk'
      · obtain ⟨m, o, es, ep, e, r⟩ := S'.ns
        subst hcenv
        exact ⟨m, o, es, ep, hk _ o (fun w => hwM _ w (.inl rfl)) e, r⟩
      · obtain ⟨o, e, hc, n, hd⟩ := hl
        refine .list ?_ (hk D o hDwr e) hc hd ?_
        · rintro (y | y)
          · obtain ⟨o', e'⟩ := R.live D y
            have := O.kp.sub D o' e'; rw [new₂ D (Nat.le_refl _)] at this; cases this
          · exact absurd y (Nat.ne_of_lt (Nat.lt_succ_self _))
        · rw [hin, List.take_length] at hr
          subst hcenv
          exact hr.mono fun a o n e => ⟨fun y => n (y.elim (fun y => .inl (.inl y)) fun y => .inr (.inl y)), hk a o (fun w => n (.inl (.inr (List.mem_cons_of_mem _ w)))) e⟩
  subst hcenv
  exact codeAny_compStart_list loop (O.walks.self 0 _ _ _ hst₀ loop)

theorem closureFor_free {scope : Scope} {env : Env} (hh : ∀ n, env.kindOf n = some .cell ∨ env.kindOf n = some .free → ∃ a, env.cells.lookup n = some a) (hf : freeOk scope env = true) :
    ∃ cl, closureFor scope env = pure cl ∧ (∀ n, (n, NameKind.free) ∈ scope.names → ∃ a, cl.lookup n = some a) ∧ (∀ n a, cl.lookup n = some a → env.cells.lookup n = some a ∧ (n, NameKind.free) ∈ scope.names) := by
  have main : ∀ (names : List (Str × NameKind)) (acc : List (Str × Addr)), (names.all fun p => p.2 != .free || (env.kindOf p.1 == some .cell || env.kindOf p.1 == some .free)) = true → (∀ n a, acc.lookup n = some a → env.cells.lookup n = some a ∧ (n, NameKind.free) ∈ scope.names) → (∀ p ∈ names, p ∈ scope.names) →
      ∃ cl, (forIn names acc fun (x : Str × NameKind) r => (match x with | (name, kind) => if (kind == .free) = true then do let a ← cellOf env name; pure (ForInStep.yield ((name, a) :: r)) else pure (ForInStep.yield r) : Sem (ForInStep (List (Str × Addr))))) = pure cl ∧
        (∀ n, (n, NameKind.free) ∈ names ∨ (∃ a, acc.lookup n = some a) → ∃ a, cl.lookup n = some a) ∧ (∀ n a, cl.lookup n = some a → env.cells.lookup n = some a ∧ (n, NameKind.free) ∈ scope.names) := by
    intro names
    induction names with
    | nil => intro acc _ ha _; exact ⟨acc, rfl, fun n h => by rcases h with h | h; cases h; exact h, ha⟩
    | cons p r ih =>
      intro acc h ha hsub
      obtain ⟨name, kind⟩ := p
      rw [List.all_cons, Bool.and_eq_true] at h
      obtain ⟨h1, h2⟩ := h
      have hsub' : ∀ p ∈ r, p ∈ scope.names := fun p hp => hsub p (List.mem_cons_of_mem _ hp)
      rw [List.forIn_cons]
      by_cases hk : (kind == NameKind.free) = true
      · have hk' : kind = .free := by simpa using hk
        subst hk'
        obtain ⟨a, e⟩ : ∃ a, env.cells.lookup name = some a := hh name (by simpa using h1)
        have e2 : cellOf env name = pure a := by unfold cellOf; rw [e]
        obtain ⟨cl, q1, q2, q3⟩ := ih ((name, a) :: acc) h2 (fun n b q => by
          rw [List.lookup_cons] at q
          cases hb : n == name with
          | true => rw [hb] at q; cases q; rw [beq_iff_eq.mp hb]; exact ⟨e, hsub _ List.mem_cons_self⟩
          | false => rw [hb] at q; exact ha n b q) hsub'
        refine ⟨cl, ?_, fun n q => q2 n ?_, q3⟩
        · simp only [beq_self_eq_true, if_true, e2, pure_bind]; exact q1
        · rcases q with q | ⟨b, q⟩
          · rcases List.mem_cons.mp q with z | z
            · cases z; exact .inr ⟨a, by simp⟩
            · exact .inl z
          · refine .inr ?_
            rw [List.lookup_cons]; split
            · exact ⟨_, rfl⟩
            · exact ⟨b, q⟩
      · obtain ⟨cl, q1, q2, q3⟩ := ih acc h2 ha hsub'
        refine ⟨cl, ?_, fun n q => q2 n ?_, q3⟩
        · simp only [Bool.not_eq_true] at hk
          simp only [hk, Bool.false_eq_true, if_false, pure_bind]; exact q1
        · rcases q with q | q
          · rcases List.mem_cons.mp q with z | z
            · cases z; simp at hk
            · exact .inl z
          · exact .inr q
  obtain ⟨cl, q1, q2, q3⟩ := main scope.names [] hf (fun n a e => by simp at e) fun p hp => hp
  refine ⟨cl, ?_, fun n h => q2 n (.inl h), q3⟩
  unfold closureFor
  simp only [q1, pure_bind]

/-- a list comprehension of one clause -/
theorem ev_comp (src : Src c k env ρ μ iter ds) (tests : ∀ C cl d, d ∈ ds → Tests c k (cenvOf scope env C cl) ((x, d) :: capt scope ρ) ifs (p d))
    (elts : ∀ C cl d, d ∈ ds → p d = true → Ev c k (cenvOf scope env C cl) ((x, d) :: capt scope ρ) [] elt (f d)) (hlen : ds.length ≤ 16777216)
    (ok : compOk scope env x = true := by rfl) (hs : ∀ x, foldedSetIterable iter env x = pure x := by intro _; rfl) : Ev c k env ρ μ (.ListComp elt [⟨.Name x px, iter, ifs, 0⟩] scope pos) (.list ((ds.filter p).map f)) := by
  intro X A s hA R E
  have ok' := CompOk.of ok
  obtain ⟨cl, hclos, hcl1, hcl2⟩ := closureFor_free R.ok.has ok'.free
  rw [eval_ListComp]
  refine wpAny_comprehension_free (use := none) rfl hs hclos ok'.kind ok'.names (wpAny_mono (src X A s E hA R) (fun xv s₁ h₁ => wpAny_mono h₁ (fun it s₂ h₂ => ?_) fun _ _ e => e) fun _ _ e => e)
  obtain ⟨I, fp, wr, P, W, rfl, O⟩ := h₂
  refine comp_core (RR := fun acc C => compPost (model c.prog c.w) A E none (fun v s' => Kp s s' ∧ Rd X s'.heap v (.list ((ds.filter p).map f))) acc C) hA R O ok' hlen hcl1 hcl2 tests elts ?_
  rintro D C s' hD hC hDC ⟨m, hn⟩ hr hk
  refine ⟨m, hn, fun h' hs' => ⟨?_, (hr.but (.inr rfl) hs').weak fun a h => .inl h⟩⟩
  have hCs : s.heap.get? C = none := by
    cases e : s.heap.get? C with
    | none => rfl
    | some o => rw [O.kp.sub C o e] at hC; cases hC
  exact ⟨fun b o e => hs'.extBut b o (fun q => by rw [q, hCs] at e; cases e) (hk.sub b o e), hk.same.trans ⟨rfl, rfl⟩⟩

/-- the same, stored at once (the comprehension and its target on one line) -/
theorem ex_assign_comp {Q : Out → Vars → Mem → Prop} {y : Str} {py spos : Pos} (src : Src c k env ρ μ iter ds) (tests : ∀ C cl d, d ∈ ds → Tests c k (cenvOf scope env C cl) ((x, d) :: capt scope ρ) ifs (p d))
    (elts : ∀ C cl d, d ∈ ds → p d = true → Ev c k (cenvOf scope env C cl) ((x, d) :: capt scope ρ) [] elt (f d)) (hlen : ds.length ≤ 16777216)
    (h : Q .next ((y, .list ((ds.filter p).map f)) :: ρ) μ)
    (hsw : swapsWith (.ListComp elt [⟨.Name x px, iter, ifs, 0⟩] scope pos) (some (.Name y py)) spos.line env = pure true := by rfl) (hy : stor env y = true := by rfl)
    (ok : compOk scope env x = true := by rfl) (hs : ∀ x, foldedSetIterable iter env x = pure x := by intro _; rfl) :
    Ex1 c k env ρ μ (.Assign [.Name y py] (.ListComp elt [⟨.Name x px, iter, ifs, 0⟩] scope pos) spos) Q := by
  intro X₀ A s E hA S
  have R := S.rc
  have ok' := CompOk.of ok
  obtain ⟨cl, hclos, hcl1, hcl2⟩ := closureFor_free R.ok.has ok'.free
  rw [exec_Assign_Name_used _ _ _ _ hsw]
  refine wpAny_bind (wpAny_standAt (wpAny_bind ?_))
  show wpAny _ A (do let _ ← comprehension (.ListComp elt [⟨.Name x px, iter, ifs, 0⟩] scope pos) scope env _ (newList []) false (eval iter env) (some (assign (.Name y py) env))) _ _ s
  refine wpAny_bind (wpAny_mono (wpAny_comprehension_free (use := some (assign (.Name y py) env)) (Q := fun _ s' => Post c X₀ env μ s Q .next s') rfl hs hclos ok'.kind ok'.names
    (wpAny_mono (src _ A s E hA R) (fun xv s₁ h₁ => wpAny_mono h₁ (fun it s₂ h₂ => ?_) fun _ _ e => e) fun _ _ e => e)) (fun _ s' hq => wpAny_pure (wpAny_pure hq)) fun _ _ e => e)
  obtain ⟨I, fp, wr, P, W, rfl, O⟩ := h₂
  refine comp_core (RR := fun acc C => compPost (model c.prog c.w) A E (some (assign (.Name y py) env)) (fun _ s' => Post c X₀ env μ s Q .next s') acc C) hA R O ok' hlen hcl1 hcl2 tests elts ?_
  rintro D C s' hD hC hDC ⟨m, hn⟩ hr hk
  have hCs : s.heap.get? C = none := by
    cases e : s.heap.get? C with
    | none => rfl
    | some o => rw [O.kp.sub C o e] at hC; cases hC
  have hCM : ¬ Mut env μ C := fun q => by obtain ⟨o, e⟩ := S.live' q; rw [hCs] at e; cases e
  have hCX : ¬ X₀ C := fun q => by obtain ⟨o, e⟩ := S.live C q; rw [hCs] at e; cases e
  have hCb : c.base.get? C = none := by
    cases e : c.base.get? C with
    | none => rfl
    | some o => rw [S.base C o e] at hCs; cases hCs
  show wpAny _ A (assign (.Name y py) env (.ref D)) _ _ _
  have S' : St c (fun a => X₀ a ∨ a ∈ [C]) env ρ μ s' := S.addX hk (fun b hb => by simp at hb; subst hb; exact hCs) (fun b hb => by simp at hb; subst hb; obtain ⟨o, _, _, e, _⟩ := hn; exact ⟨o, e⟩)
  refine wpAny_assign_Name (st_store S' hy (hr.mono fun a o n e => ⟨?_, e⟩) fun s₃ S₃ g₃ => ?_)
  · rintro ((q | q) | q)
    · exact n (.inl (.inl q))
    · simp at q; exact n (.inr q)
    · exact n (.inl (.inr q))
  · refine ⟨m, ?_, fun h' hs' => ?_⟩
    · obtain ⟨o, es, ep, e, r⟩ := hn
      exact ⟨o, es, ep, g₃.keep C o hCM e, r⟩
    · have kk : ∀ b o, b ∉ [C] → s₃.heap.get? b = some o → ({ s₃ with heap := h' } : Shared).heap.get? b = some o := fun b o w e => hs'.extBut b o (by simpa using w) e
      refine ⟨.next, _, μ, trivial, S₃.dropX kk (fun b hb => by simp at hb; subst hb; exact hCX) (fun b hb => by simp at hb; subst hb; exact hCM) (fun b hb => by simp at hb; subst hb; exact hCb), ?_, h⟩
      have g := (Go.of_kp (env := env) (μ := μ) hk).trans g₃
      have nC : ∀ b o, s.heap.get? b = some o → b ∉ [C] := fun b o e q => by simp at q; rw [q, hCs] at e; cases e
      refine ⟨g.same.trans ⟨rfl, rfl⟩, fun a o n e => kk a o (nC a o e) (g.keep a o n e), fun a o e => ?_, g.grow⟩
      · obtain ⟨o', e'⟩ := g.alive a o e
        exact ⟨o', kk a o' (nC a o e) e'⟩
end
end Mine
end

/-! # M6 -/
section
set_option autoImplicit false
namespace Mine
open PySem PySem.Calls PyProof.Rows

def paramsOf : Stmt → Arguments
  | .FunctionDef _ args _ _ _ _ _ _ _ _ => args
  | _ => default
def bodyOf : Stmt → List Stmt
  | .FunctionDef _ _ body _ _ _ _ _ _ _ => body
  | _ => []
def scopeOf : Stmt → Scope
  | .FunctionDef _ _ _ _ _ _ scope _ _ _ => scope
  | _ => default
def namesOf (st : Stmt) : List Str := (paramsOf st).args.map (·.arg)

def fnD (st : Stmt) (nm qn : Str) (doc pm : Value) (an : Option Addr) (cdv ct : Value) : FuncData :=
  { name := nm, qualname := qn, params := paramsOf st, body := .stmts (bodyOf st), scope := scopeOf st, globals := mainGlobals, closure := [], defaults := .none, kwdefaults := .none, doc := doc, pyModule := pm, annotations := an, code := cdv, closureTuple := ct, builtins := builtinsNs }

/-- the def st stands at f -/
def FnAt (c : Cx) (f : Addr) (st : Stmt) : Prop :=
  ∃ o nm qn doc pm an cdv ct, c.base.get? f = some o ∧ o.data = .func (fnD st nm qn doc pm an cdv ct) ∧ c.base.CodeRec cdv qn

def fenv (st : Stmt) (qn : Str) (cdv : Value) (L f : Addr) : Env :=
  { scope := scopeOf st, locals := L, globals := mainGlobals, cells := cellsFrom (L + 1) (scopeOf st).names [], qual := qn ++ ".<locals>.", func := some f, code := cdv, frame := some L, builtins := builtinsNs }

def fnOk (st : Stmt) : Bool := ((scopeOf st).kind == .function) && !(scopeOf st).isCoroutine && !(scopeOf st).isGenerator && ((scopeOf st).names.all fun p => p.2 != .free) &&
  ((namesOf st).all fun n => (scopeOf st).names.lookup n == some .local || (scopeOf st).names.lookup n == some .cell)

/-- a call of f with these gives that; the old heap is kept -/
def Fn (c : Cx) (k : Nat) (f : Addr) (ds : List D) (r : D) : Prop :=
  ∀ X A s vs, Room k A → Sub c.base s.heap → (∀ a, X a → ∃ o, s.heap.get? a = some o) → RdAll X s.heap vs ds → Gives c X A (call (.ref f) vs) r s

def Binds (st : Stmt) (n : Nat) : Prop := ∀ nm qn doc pm an cdv ct (vs : List Value), vs.length = n → bindArgs (fnD st nm qn doc pm an cdv ct) ⟨vs, []⟩ = pure ((namesOf st).zip vs)

theorem bindL_eq {kindOf : Str → Option NameKind} {x : Str} (hk : kindOf x = some .local) : ∀ (binds : List (Str × Value)) (m : Str → Option Value), bindL kindOf binds m x = (binds.reverse.lookup x).or (m x)
  | [], m => by simp [bindL]
  | (n, v) :: r, m => by
    rw [bindL, bindL_eq hk r, List.reverse_cons, List.lookup_append]
    cases r.reverse.lookup x with
    | some u => simp
    | none =>
      simp only [Option.none_or]
      by_cases hx : x = n
      · subst hx; rw [if_pos hk]; simp
      · have : (x == n) = false := by simpa using hx
        simp only [List.lookup_cons, this, List.lookup_nil, Option.none_or]
        split
        · simp [hx]
        · rfl
theorem bindC_eq {kindOf : Str → Option NameKind} {x : Str} (hk : kindOf x ≠ some .local) : ∀ (binds : List (Str × Value)) (m : Str → Option Value), bindC kindOf binds m x = (binds.reverse.lookup x).or (m x)
  | [], m => by simp [bindC]
  | (n, v) :: r, m => by
    rw [bindC, bindC_eq hk r, List.reverse_cons, List.lookup_append]
    cases r.reverse.lookup x with
    | some u => simp
    | none =>
      simp only [Option.none_or]
      by_cases hx : x = n
      · subst hx; rw [if_neg hk]; simp
      · have : (x == n) = false := by simpa using hx
        simp only [List.lookup_cons, this, List.lookup_nil, Option.none_or]
        split
        · rfl
        · simp [hx]

def LookRel (X : Addr → Prop) (h : Heap) : Option Value → Option D → Prop
  | some v, some d => Rd X h v d
  | none, none => True
  | _, _ => False
theorem zip_rel {X : Addr → Prop} {h : Heap} {x : Str} : ∀ {names : List Str} {vs : List Value} {ds : List D}, RdAll X h vs ds → LookRel X h ((names.zip vs).reverse.lookup x) ((names.zip ds).reverse.lookup x)
  | [], _, _, _ => by simp [LookRel]
  | _ :: _, _, _, .nil => by simp [LookRel]
  | n :: ns, _, _, .cons (v := v) (vs := vs) (d := d) (ds := ds) a r => by
    rw [List.zip_cons_cons, List.zip_cons_cons, List.reverse_cons, List.reverse_cons, List.lookup_append, List.lookup_append]
    have ih := @zip_rel X h x ns _ _ r
    generalize (ns.zip vs).reverse.lookup x = p at ih
    generalize (ns.zip ds).reverse.lookup x = q at ih
    cases p <;> cases q <;> first | exact ih.elim | skip
    · simp only [Option.none_or, List.lookup_cons, List.lookup_nil]
      cases hm : x == n
      · trivial
      · exact a
    · exact ih
theorem zip_look {X : Addr → Prop} {h : Heap} {x : Str} {d : D} {names : List Str} {vs : List Value} {ds : List D} (r : RdAll X h vs ds) (e : (names.zip ds).reverse.lookup x = some d) : ∃ v, (names.zip vs).reverse.lookup x = some v ∧ Rd X h v d := by
  have q := zip_rel (x := x) (names := names) r
  rw [e] at q
  cases p : (names.zip vs).reverse.lookup x with
  | none => rw [p] at q; exact q.elim
  | some v => rw [p] at q; exact ⟨v, rfl, q⟩

def retOf : Out → D
  | .ret d => d
  | _ => .none

theorem fn_of {c : Cx} {k : Nat} {f : Addr} {st : Stmt} {ds : List D} {r : D} (hf : FnAt c f st) (hb : Binds st ds.length)
    (h : ∀ qn cdv L, Ex c k (fenv st qn cdv L f) ((namesOf st).zip ds).reverse [] (bodyOf st) (fun o _ _ => retOf o = r)) (ok : fnOk st = true := by rfl) : Fn c (k + 1) f ds r := by
  intro X A s vs hA hbase hlive hvs E
  obtain ⟨o, nm, qn, doc, pm, an, cdv, ct, ho, hd, hcd⟩ := hf
  unfold fnOk at ok
  simp only [Bool.and_eq_true, beq_iff_eq, Bool.not_eq_true', List.all_eq_true, Bool.or_eq_true, bne_iff_ne] at ok
  obtain ⟨⟨⟨⟨k1, k2⟩, k3⟩, k4⟩, k5⟩ := ok
  have hlen := hvs.length
  have hsize : ∀ a : Nat, s.heap.objs.size ≤ a → s.heap.get? a = none := fun a ha => by
    cases e : s.heap.get? a with
    | none => rfl
    | some o => exact absurd (Heap.lt_size e) (Nat.not_lt.mpr ha)
  refine wpAny_call (codeAny_call_cells (binds := (namesOf st).zip vs) (body := bodyOf st) (by have := hA.depth; omega) (hbase f o ho) hd (c.nolimit.keeps hbase) (hcd.keeps hbase) rfl (hb nm qn doc pm an cdv ct vs hlen) rfl (fun x hx => ?_) (fun s₁ I => ?_) k2 k3 k1)
  · have hm : x.1 ∈ namesOf st := (List.of_mem_zip (a := x.1) (b := x.2) hx).1
    rcases k5 x.1 hm with q | q
    · exact .inl q
    · obtain ⟨a, ha⟩ := cf_has (scopeOf st).names (s.heap.objs.size + 1) [] x.1 (.inl (mem_lookup q))
      exact .inr ⟨q, by show ((cellsFrom _ (scopeOf st).names []).lookup x.1).isSome = true; rw [ha]; rfl⟩
  · have he : callEnvC (fnD st nm qn doc pm an cdv ct) s.heap.objs.size f = fenv st qn cdv s.heap.objs.size f := rfl
    rw [he] at I ⊢
    have I' := I.toInCall
    have hk₁ : Sub s.heap s₁.heap := I'.keep
    have newM : ∀ a, Mut (fenv st qn cdv s.heap.objs.size f) [] a → s.heap.get? a = none := fun a m => by
      rcases m with m | ⟨n, m⟩ | ⟨_, m⟩
      · exact hsize a (Nat.le_of_eq (Eq.symm m))
      · exact hsize a (Nat.le_of_lt (I.above n a (mem_of_lookup m)))
      · cases m
    have S₁ : St c X (fenv st qn cdv s.heap.objs.size f) ((namesOf st).zip ds).reverse [] s₁ := by
      refine ⟨⟨k1, rfl, rfl, fun n hn => ?_⟩, hbase.trans hk₁, fun a m => ?_, fun a h => ?_, ⟨_, I'.ns⟩, fun n a e => ⟨_, I.cell n a e⟩, fun n n' a e e' => ?_, fun x d e => ?_, fun a ds m => (nomatch m), List.nodup_nil, fun _ _ m => (nomatch m)⟩
      · rcases hn with q | q
        · exact cf_has _ _ _ _ (.inl (mem_lookup q))
        · exact absurd rfl (k4 _ (mem_lookup q))
      · cases e : c.base.get? a with
        | none => rfl
        | some o => have := newM a m; rw [hbase a o e] at this; cases this
      · obtain ⟨o, e⟩ := hlive a h; exact ⟨o, hk₁ a o e⟩
      · exact name_of_addr I.apart (mem_of_lookup e) (mem_of_lookup e')
      · obtain ⟨v, e1, e2⟩ := zip_look hvs e
        refine ⟨v, ?_, e2.mono fun a o n q => ⟨?_, hk₁ a o q⟩⟩
        · have hx : x ∈ namesOf st := by
            have : (x, v) ∈ ((namesOf st).zip vs).reverse := mem_of_lookup e1
            exact (List.of_mem_zip (List.mem_reverse.mp this)).1
          rcases k5 x hx with q | q
          · exact .inl ⟨q, _, I'.ns, by rw [bindL_eq q, e1]; rfl⟩
          · obtain ⟨a, ha⟩ := cf_has (scopeOf st).names (s.heap.objs.size + 1) [] x (.inl (mem_lookup q))
            refine .inr ⟨.inl q, a, ha, ?_⟩
            have := I.cell x a ha
            have hnl : (fenv st qn cdv s.heap.objs.size f).kindOf x ≠ some .local := by
              show (scopeOf st).names.lookup x ≠ _
              rw [q]; decide
            rw [bindC_eq hnl, e1] at this
            exact this
        · rintro (y | y)
          · exact n y
          · rw [newM a y] at q; cases q
    refine wpAny_mono (h qn cdv s.heap.objs.size X _ s₁ _ (hA.deeper _) S₁) (fun fl s₂ p => ?_) fun _ _ e => e
    obtain ⟨o', ρ', μ', a, S₂, g, q⟩ := p
    have hk : Kp s s₂ := by
      refine ⟨fun b o e => g.keep b o (fun m => by rw [newM b m] at e; cases e) (hk₁ b o e), ?_⟩
      obtain ⟨h1, t1, e1⟩ := I'.same
      exact Same.trans ⟨by rw [e1], by rw [e1]⟩ g.same
    refine ⟨hk, ?_⟩
    subst q
    cases fl <;> cases o' <;> first | exact a.elim | skip
    · exact .none
    · exact .none
    · exact .none
    · exact Rd.weak a fun _ h => .inl h
end Mine
end

/-! # M7 -/
section
set_option autoImplicit false
namespace Mine
open PySem PySem.Calls PyProof.Rows

/-! ## arguments and calls -/
def notStar : Expr → Bool
  | .Starred .. => false
  | _ => true
theorem starEach_cons {e : Expr} {rest : List Expr} {env : Env} (h : notStar e = true) : starEach (e :: rest) env = (false, eval e env) :: starEach rest env := by
  cases e <;> first | rfl | cases h

section
variable {c : Cx} {k : Nat} {env : Env} {ρ : Vars} {μ : Mem}

inductive EvAll (c : Cx) (k : Nat) (env : Env) (ρ : Vars) (μ : Mem) : List Expr → List D → Prop
  | nil : EvAll c k env ρ μ [] []
  | cons {e es d ds} : Ev c k env ρ μ e d → EvAll c k env ρ μ es ds → notStar e = true → EvAll c k env ρ μ (e :: es) (d :: ds)

theorem evAll_plain {args : List Expr} {ds : List D} (h : EvAll c k env ρ μ args ds) (pos : Pos) : (backTo pos (starEach args env)).any (·.1) = false := by
  induction h with
  | nil => rfl
  | cons _ _ hs ih => rw [starEach_cons hs]; simpa [backTo] using ih

theorem evAll {args : List Expr} {ds : List D} (h : EvAll c k env ρ μ args ds) (pos : Pos) : ∀ X A s E, Room k A → Rc c X env ρ μ s →
    wpAny (model c.prog c.w) A (spliced (backTo pos (starEach args env))) (fun vs s' => Kp s s' ∧ RdAll X s'.heap vs ds) E s := by
  induction h with
  | nil => exact fun _ _ s _ _ _ => args_nil ⟨Kp.refl s, .nil⟩
  | cons he _ hs ih =>
    intro X A s E hA R
    refine args_cons (gives_bind (he X A s hA R) fun v s₁ k₁ r₁ => ?_) (starEach_cons hs)
    refine wpAny_mono (ih X A s₁ E hA (R.keep k₁.sub)) (fun vs s₂ q => ⟨k₁.trans q.1, .cons (r₁.keep q.1.sub) q.2⟩) fun _ _ e => e

theorem name_global {x : Str} {px : Pos} {v : Value} {X : Addr → Prop} {A : Around} {s : Shared} {Q : Value → Shared → Prop} {E : Value → Shared → Prop} (R : Rc c X env ρ μ s) (hx : env.kindOf x = some .globalImplicit) (hg : c.mg x = some v)
    (h : Q v s) (hd : (x == ("__debug__" : Str)) = false) : wpAny (model c.prog c.w) A (eval (.Name x px) env) Q E s :=
  Name_function_global R.ok.kind hx (loadGlobal_global (env := env) (by rw [R.ok.globals]; exact c.g.keeps R.base) hg h) hd
theorem name_builtin {x : Str} {px : Pos} {v : Value} {X : Addr → Prop} {A : Around} {s : Shared} {Q : Value → Shared → Prop} {E : Value → Shared → Prop} (R : Rc c X env ρ μ s) (hx : env.kindOf x = some .globalImplicit) (hg : c.mg x = none)
    (hb : bootBuiltins x = some v) (hn : x ≠ "__name__") (h : Q v s) (hd : (x == ("__debug__" : Str)) = false) : wpAny (model c.prog c.w) A (eval (.Name x px) env) Q E s :=
  Name_function_global R.ok.kind hx (loadGlobal_builtin (env := env) (by rw [R.ok.globals]; exact c.g.keeps R.base) hg (by rw [R.ok.builtins]; exact c.b.keeps R.base) ((c.builtins x hn).trans hb) h) hd

theorem callWith_plain {f : Value} {args : List Expr} {ds : List D} {pos : Pos} {X : Addr → Prop} {A : Around} {s : Shared} {Q : Value → Shared → Prop} {E : Value → Shared → Prop} (R : Rc c X env ρ μ s) (hA : Room k A) (ha : EvAll c k env ρ μ args ds)
    (hk : ∀ s', Kp s s' → ∃ kk, (kk = Keeper.frame ∨ kk = Keeper.machine) ∧ ∀ (Q' : Keeper → Shared → Prop), Q' kk s' → wpAny (model c.prog c.w) A (keeperOf f) Q' E s') (hne : args ≠ [])
    (h : ∀ vs s', Kp s s' → RdAll X s'.heap vs ds → wpAny (model c.prog c.w) A (call f vs) Q E s') : wpAny (model c.prog c.w) A (callWith pos f [] (backTo pos (starEach args env)) []) Q E s := by
  have hpl := evAll_plain ha pos
  have hev := evAll ha pos X A s E hA R
  unfold callWith
  have hargs : wpAny (model c.prog c.w) A (evalArgs f true (backTo pos (starEach args env)) []) (fun a s' => a.kw = [] ∧ Kp s s' ∧ RdAll X s'.heap a.pos ds) E s := by
    cases ha with
    | nil => exact absurd rfl hne
    | cons he hr hs =>
      rw [starEach_cons hs] at hev ⊢
      exact evalArgs_plain (wpAny_mono hev (fun vs s' q => ⟨rfl, q.1, q.2⟩) fun _ _ e => e)
  refine wpAny_bind (wpAny_holding (wpAny_mono hargs (fun a s₁ h₁ => wpAny_bind (wpAny_standAt ?_)) fun _ _ x => x))
  obtain ⟨pos', kw⟩ := a
  obtain ⟨rfl, k₁, r₁⟩ := h₁
  simp only [hpl, List.any_nil, Bool.or_false, List.nil_append]
  obtain ⟨kk, hkk, hq⟩ := hk s₁ k₁
  refine wpAny_bind (hq _ ?_)
  have hc := h pos' s₁ k₁ r₁
  have tail : ∀ {t : Sem Value}, wpAny (model c.prog c.w) A t Q E s₁ → wpAny (model c.prog c.w) A (t >>= fun r => holding [r] point >>= fun _ => pure r) Q E s₁ :=
    fun ht => wpAny_bind (wpAny_mono ht (fun r s₂ hr => wpAny_bind (wpAny_holding (wpAny_point (wpAny_pure hr)))) fun _ _ x => x)
  rcases hkk with rfl | rfl
  · dsimp only
    split
    · exact tail hc
    · exact tail (by unfold callMarked; exact wpAny_keep hc)
  · exact tail hc

/-- a call of a def of the text -/
theorem ev_call {x : Str} {px pos : Pos} {f : Addr} {st : Stmt} {args : List Expr} {ds : List D} {r : D} (hg : c.mg x = some (.ref f)) (hf : FnAt c f st) (ha : EvAll c k env ρ μ args ds) (hF : Fn c k f ds r) (hne : args ≠ [] := by intro h; cases h)
    (hx : env.kindOf x = some .globalImplicit := by rfl) (hd : (x == ("__debug__" : Str)) = false := by decide) : Ev c k env ρ μ (.Call (.Name x px) args [] pos) r := by
  intro X A s hA R E
  refine Call_ (name_global R hx hg ?_ hd)
  obtain ⟨o, nm, qn, doc, pm, an, cdv, ct, ho, hd', hcd⟩ := hf
  refine callWith_plain R hA ha (fun s' k' => ⟨.frame, .inl rfl, fun Q' hq => ?_⟩) hne fun vs s₁ k₁ r₁ => ?_
  · unfold keeperOf
    refine wpAny_bind (wpAny_load (k'.sub _ _ (R.base _ _ ho)) ?_)
    rw [hd']; exact wpAny_pure hq
  · have R₁ := R.keep k₁.sub
    exact gives_after (hF X A s₁ vs hA R₁.base R₁.live r₁) k₁

theorem ev_callB {x : Str} {px pos : Pos} {id : String} {args : List Expr} {ds : List D} {r : D} (hg : c.mg x = none) (hb : bootBuiltins x = some (.builtin id)) (ha : EvAll c k env ρ μ args ds)
    (hF : ∀ X A s vs, Room k A → (∀ a, X a → ∃ o, s.heap.get? a = some o) → RdAll X s.heap vs ds → Gives c X A (call (.builtin id) vs) r s) (hn : x ≠ "__name__" := by decide) (hne : args ≠ [] := by intro h; cases h)
    (hx : env.kindOf x = some .globalImplicit := by rfl) (hd : (x == ("__debug__" : Str)) = false := by decide) : Ev c k env ρ μ (.Call (.Name x px) args [] pos) r := by
  intro X A s hA R E
  refine Call_ (name_builtin R hx hg hb hn ?_ hd)
  refine callWith_plain R hA ha (fun s' k' => ⟨.machine, .inr rfl, fun Q' hq => wpAny_pure hq⟩) hne fun vs s₁ k₁ r₁ => ?_
  exact gives_after (hF X A s₁ vs hA (R.keep k₁.sub).live r₁) k₁
theorem ev_callT {x : Str} {px pos : Pos} {id : String} {args : List Expr} {ds : List D} {r : D} (hg : c.mg x = none) (hb : bootBuiltins x = some (.type id)) (ha : EvAll c k env ρ μ args ds)
    (hF : ∀ X A s vs, Room k A → (∀ a, X a → ∃ o, s.heap.get? a = some o) → RdAll X s.heap vs ds → Gives c X A (call (.type id) vs) r s) (hn : x ≠ "__name__" := by decide) (hne : args ≠ [] := by intro h; cases h)
    (hx : env.kindOf x = some .globalImplicit := by rfl) (hd : (x == ("__debug__" : Str)) = false := by decide) : Ev c k env ρ μ (.Call (.Name x px) args [] pos) r := by
  intro X A s hA R E
  refine Call_ (name_builtin R hx hg hb hn ?_ hd)
  refine callWith_plain R hA ha (fun s' k' => ⟨.machine, .inr rfl, fun Q' hq => wpAny_pure hq⟩) hne fun vs s₁ k₁ r₁ => ?_
  exact gives_after (hF X A s₁ vs hA (R.keep k₁.sub).live r₁) k₁

theorem new_notX {X : Addr → Prop} {s : Shared} (hl : ∀ a, X a → ∃ o, s.heap.get? a = some o) : ¬ X s.heap.objs.size := fun h => by
  obtain ⟨o, e⟩ := hl _ h
  exact Nat.lt_irrefl _ (Heap.lt_size e)

/-- len of a list -/
theorem ev_len {x : Str} {px pos : Pos} {e : Expr} {ds : List D} (hg : c.mg x = none) (hb : bootBuiltins x = some (.builtin "len")) (he : Ev c k env ρ μ e (.list ds)) (hlen : ds.length ≤ 16777216) (hs : notStar e = true := by rfl) (hn : x ≠ "__name__" := by decide)
    (hx : env.kindOf x = some .globalImplicit := by rfl) (hd : (x == ("__debug__" : Str)) = false := by decide) : Ev c k env ρ μ (.Call (.Name x px) [e] [] pos) (.int ds.length) :=
  ev_callB hg hb (.cons he .nil hs) (fun X A s vs hA _ r E => by
    cases r with
    | cons r1 r2 =>
      cases r2
      cases r1 with
      | list hX ho hc hd hr =>
        rename_i a o vs n
        have hl : vs.size = ds.length := by have := hr.length; simpa using this
        refine call_len_list ⟨o, ho, hc, n, hd⟩ (by rw [hl]; omega) ⟨Kp.tok s _, ?_⟩
        rw [hl]; exact .int _ _) hn (by intro h; cases h) hx hd

/-- list(xs) of a list -/
theorem ev_listOf {x : Str} {px pos : Pos} {e : Expr} {ds : List D} (hg : c.mg x = none) (hb : bootBuiltins x = some (.type "list")) (he : Ev c k env ρ μ e (.list ds)) (hlen : ds.length ≤ 16777216) (hs : notStar e = true := by rfl) (hn : x ≠ "__name__" := by decide)
    (hx : env.kindOf x = some .globalImplicit := by rfl) (hd : (x == ("__debug__" : Str)) = false := by decide) : Ev c k env ρ μ (.Call (.Name x px) [e] [] pos) (.list ds) :=
  ev_callT hg hb (.cons he .nil hs) (fun X A s vs hA hl r E => by
    cases r with
    | cons r1 r2 =>
      cases r2
      cases r1 with
      | list hX ho hc hd hr =>
        rename_i a o vs n
        have hlv : vs.size = ds.length := by have := hr.length; simpa using this
        refine call_list_seq (hsz := by rw [hlv, sizeLine_eq]; exact hlen) a (.inl rfl) ho hc hd fun h' c' hk hD => ⟨Kp.heap s h' s.toks hk, ?_⟩
        exact .list (new_notX hl) hD rfl rfl (hr.keep hk)) hn (by intro h; cases h) hx hd

/-- a display -/
theorem ev_list {args : List Expr} {ds : List D} {pos : Pos} (ha : EvAll c k env ρ μ args ds) (hlen : ds.length ≤ 16777216) : Ev c k env ρ μ (.List args pos) (.list ds) := by
  intro X A s hA R E
  refine List_ (wpAny_mono (evAll ha pos X A s E hA R) (fun vs s₁ q => ?_) fun _ _ e => e)
  have hv := q.2.length
  refine wpAny_newObj_type ⟨q.1.trans (Kp.push s₁ _ _), ?_⟩ (by show vs.toArray.size ≤ sizeLine; rw [List.size_toArray, hv, sizeLine_eq]; exact hlen)
  exact .list (new_notX (R.keep q.1.sub).live) (Heap.get?_push_size _ rfl) rfl rfl (by simpa using q.2.keep fun _ _ e => Heap.get?_push_of_some _ e)
theorem ev_tuple {args : List Expr} {ds : List D} {kk : Nat} {pos : Pos} (ha : EvAll c k env ρ μ args ds) (hlen : ds.length ≤ 16777216) : Ev c k env ρ μ (.Tuple args kk pos) (.tuple ds) := by
  intro X A s hA R E
  refine Tuple_ (wpAny_mono (evAll ha pos X A s E hA R) (fun vs s₁ q => ?_) fun _ _ e => e)
  have hv := q.2.length
  refine wpAny_newObj_type ⟨q.1.trans (Kp.push s₁ _ _), ?_⟩ (by show vs.toArray.size ≤ sizeLine; rw [List.size_toArray, hv, sizeLine_eq]; exact hlen)
  exact .tuple (new_notX (R.keep q.1.sub).live) (Heap.get?_push_size _ rfl) rfl rfl (by simpa using q.2.keep fun _ _ e => Heap.get?_push_of_some _ e)
end
end Mine
end

/-! # M8 -/
section
set_option autoImplicit false
namespace Mine
open PySem PySem.Calls PyProof.Rows

/-! ## data as the kit reads it -/
mutual
def toPy : D → PyData
  | .none => .none
  | .bool b => .bool b
  | .int i => .int i
  | .str x => .str x
  | .tuple ds => .tuple (toPys ds)
  | .list ds => .list (toPys ds)
  | .raw _ => .none
def toPys : List D → List PyData
  | [] => []
  | d :: ds => toPy d :: toPys ds
end
theorem toPys_map (ds : List D) : toPys ds = ds.map toPy := by induction ds with | nil => rfl | cons d ds ih => simp [toPys, ih]
mutual
def noRaw : D → Bool
  | .tuple ds => noRaws ds
  | .list ds => noRaws ds
  | .raw _ => false
  | _ => true
def noRaws : List D → Bool
  | [] => true
  | d :: ds => noRaw d && noRaws ds
end
mutual
theorem Rd.reads {X : Addr → Prop} {h : Heap} : ∀ {v : Value} {d : D}, Rd X h v d → noRaw d = true → ∃ as, Reads h v (toPy d) as
  | _, _, .none, _ => ⟨_, .none⟩
  | _, _, .bool b, _ => ⟨_, .bool b⟩
  | _, _, .int i t, _ => ⟨_, .int i t⟩
  | _, _, .str x t, _ => ⟨_, .str x t⟩
  | _, _, .raw v, hn => by simp [noRaw] at hn
  | _, _, .list _ h1 h2 h3 h4, hn => by
    obtain ⟨as, q⟩ := RdAll.reads h4 (by simpa [noRaw] using hn)
    rw [toPy]; exact ⟨_, .list h1 h2 h3 q⟩
  | _, _, .tuple _ h1 h2 h3 h4, hn => by
    obtain ⟨as, q⟩ := RdAll.reads h4 (by simpa [noRaw] using hn)
    rw [toPy]; exact ⟨_, .tuple h1 h2 h3 q⟩
theorem RdAll.reads {X : Addr → Prop} {h : Heap} : ∀ {vs : List Value} {ds : List D}, RdAll X h vs ds → noRaws ds = true → ∃ as, ReadsAll h vs (toPys ds) as
  | _, _, .nil, _ => ⟨_, .nil⟩
  | _, _, .cons a r, hn => by
    simp only [noRaws, Bool.and_eq_true] at hn
    obtain ⟨as, p⟩ := a.reads hn.1
    obtain ⟨bs, q⟩ := r.reads hn.2
    rw [toPys]; exact ⟨_, .cons p q⟩
end

/-- a kind of data told by plain data of Lean -/
structure Enc {α : Type} [DecidableEq α] (f : α → D) (n : Nat) : Prop where
  eq : ∀ a b, PyData.eqv (toPy (f a)) (toPy (f b)) = decide (a = b)
  raw : ∀ a, noRaw (f a) = true
  lay : ∀ a, (toPy (f a)).canLay0 = true
  depth : ∀ a, (toPy (f a)).depth ≤ n

theorem enc_int : Enc D.int 0 where
  eq := fun a b => by simp only [toPy, PyData.eqv]; exact Bool.beq_eq_decide_eq a b
  raw := fun _ => rfl
  lay := fun _ => by simp [toPy, PyData.canLay0]
  depth := fun _ => by simp [toPy, PyData.depth]

theorem noRaws_map {α : Type} {f : α → D} (h : ∀ a, noRaw (f a) = true) : ∀ l : List α, noRaws (l.map f) = true
  | [] => rfl
  | a :: l => by simp [noRaws, h a, noRaws_map h l]
theorem lay_map {α : Type} {f : α → D} (h : ∀ a, (toPy (f a)).canLay0 = true) : ∀ l : List α, PyData.canLayAll0 (toPys (l.map f)) = true
  | [] => by simp [toPys, PyData.canLayAll0]
  | a :: l => by simp [toPys, PyData.canLayAll0, h a, lay_map h l]
theorem depth_map {α : Type} {f : α → D} {n : Nat} (h : ∀ a, (toPy (f a)).depth ≤ n) : ∀ l : List α, PyData.depthAll (toPys (l.map f)) ≤ n
  | [] => by simp [toPys, PyData.depthAll]
  | a :: l => by have := h a; have := depth_map h l; simp only [List.map_cons, toPys, PyData.depthAll]; omega
theorem eqv_map {α : Type} [DecidableEq α] {f : α → D} (h : ∀ a b, PyData.eqv (toPy (f a)) (toPy (f b)) = decide (a = b)) : ∀ l m : List α, PyData.eqvAll (toPys (l.map f)) (toPys (m.map f)) = decide (l = m)
  | [], [] => by simp [toPys, PyData.eqvAll]
  | [], _ :: _ => by simp [toPys, PyData.eqvAll]
  | _ :: _, [] => by simp [toPys, PyData.eqvAll]
  | a :: l, b :: m => by
    simp only [List.map_cons, toPys, PyData.eqvAll, h a b, eqv_map h l m]
    by_cases h1 : a = b <;> by_cases h2 : l = m <;> simp [h1, h2]

theorem enc_list {α : Type} [DecidableEq α] {f : α → D} {n : Nat} (h : Enc f n) : Enc (fun l : List α => D.list (l.map f)) (n + 1) where
  eq := fun a b => by simp only [toPy, PyData.eqv]; exact eqv_map h.eq a b
  raw := fun a => by simp only [noRaw]; exact noRaws_map h.raw a
  lay := fun a => by simp only [toPy, PyData.canLay0]; exact lay_map h.lay a
  depth := fun a => by have := depth_map h.depth a; simp only [toPy, PyData.depth]; omega
theorem enc_pair {α β : Type} [DecidableEq α] [DecidableEq β] {f : α → D} {g : β → D} {n : Nat} (h : Enc f n) (k : Enc g n) : Enc (fun p : α × β => D.tuple [f p.1, g p.2]) (n + 1) where
  eq := fun a b => by
    obtain ⟨a, a'⟩ := a; obtain ⟨b, b'⟩ := b
    simp only [toPy, toPys, PyData.eqv, PyData.eqvAll, h.eq, k.eq, Bool.and_true]
    by_cases h1 : a = b <;> by_cases h2 : a' = b' <;> simp [h1, h2]
  raw := fun a => by simp [noRaw, noRaws, h.raw, k.raw]
  lay := fun a => by simp [toPy, toPys, PyData.canLay0, PyData.canLayAll0, h.lay, k.lay]
  depth := fun a => by have := h.depth a.1; have := k.depth a.2; simp only [toPy, toPys, PyData.depth, PyData.depthAll]; omega

/-- a list of ints -/
abbrev I (l : List Int) : D := .list (l.map .int)
theorem enc_I : Enc I 1 := enc_list enc_int
/-- a list of lists of ints -/
abbrev II (l : List (List Int)) : D := .list (l.map I)
theorem enc_II : Enc II 2 := enc_list enc_I

section
variable {c : Cx} {k : Nat} {env : Env} {ρ : Vars} {μ : Mem}

theorem cmp_Eq {α : Type} [DecidableEq α] {f : α → D} {n : Nat} (F : Enc f n) (hn : n ≤ 60) {a b : α} {X : Addr → Prop} {A : Around} {s : Shared} {v u : Value} (hA : Room k A) (h1 : Rd X s.heap v (f a)) (h2 : Rd X s.heap u (f b)) : Gives c X A (compareOp .Eq v u) (.bool (decide (a = b))) s := fun E => by
  obtain ⟨as, p⟩ := h1.reads (F.raw a)
  obtain ⟨bs, q⟩ := h2.reads (F.raw b)
  refine eq_dataH p q ?_ ?_ (by have := hA.units; omega) ?_
  · unfold SeqAt.shaped; rw [F.lay, Bool.true_and]; exact decide_eq_true (Nat.le_trans (F.depth a) (by omega))
  · unfold SeqAt.shaped; rw [F.lay, Bool.true_and]; exact decide_eq_true (Nat.le_trans (F.depth b) (by omega))
  · rw [F.eq]; exact ⟨Kp.refl s, .bool _⟩
theorem cmp_Ne {α : Type} [DecidableEq α] {f : α → D} {n : Nat} (F : Enc f n) (hn : n ≤ 60) {a b : α} {X : Addr → Prop} {A : Around} {s : Shared} {v u : Value} (hA : Room k A) (h1 : Rd X s.heap v (f a)) (h2 : Rd X s.heap u (f b)) : Gives c X A (compareOp .NotEq v u) (.bool (!decide (a = b))) s := fun E => by
  obtain ⟨as, p⟩ := h1.reads (F.raw a)
  obtain ⟨bs, q⟩ := h2.reads (F.raw b)
  refine ne_dataH p q ?_ ?_ (by have := hA.units; omega) ?_
  · unfold SeqAt.shaped; rw [F.lay, Bool.true_and]; exact decide_eq_true (Nat.le_trans (F.depth a) (by omega))
  · unfold SeqAt.shaped; rw [F.lay, Bool.true_and]; exact decide_eq_true (Nat.le_trans (F.depth b) (by omega))
  · rw [F.eq]; exact ⟨Kp.refl s, .bool _⟩
theorem any_map {α : Type} [DecidableEq α] {f : α → D} (h : ∀ a b, PyData.eqv (toPy (f a)) (toPy (f b)) = decide (a = b)) (d : α) : ∀ l : List α, ((toPys (l.map f)).any fun y => PyData.eqv y (toPy (f d))) = decide (d ∈ l)
  | [] => by simp [toPys]
  | a :: l => by
    simp only [List.map_cons, toPys, List.any_cons, h, any_map h d l, List.mem_cons]
    by_cases h1 : a = d
    · simp [h1]
    · have h2 : ¬ d = a := fun e => h1 e.symm
      simp [h1, h2]
theorem cmp_In {α : Type} [DecidableEq α] {f : α → D} {n : Nat} (F : Enc f n) (hn : n ≤ 60) {a : α} {l : List α} {X : Addr → Prop} {A : Around} {s : Shared} {v u : Value} (hA : Room k A) (h1 : Rd X s.heap v (f a)) (h2 : Rd X s.heap u (.list (l.map f))) : Gives c X A (compareOp .In v u) (.bool (decide (a ∈ l))) s := fun E => by
  obtain ⟨as, p⟩ := h1.reads (F.raw a)
  obtain ⟨bs, q⟩ := h2.reads ((enc_list F).raw l)
  rw [toPy] at q
  refine SeqAt.in_list_reads q p (lay_map F.lay l) (F.lay a) ?_ ?_
  · have h3 := F.depth a; have h4 := Nat.min_le_right (PyData.depthAll (toPys (l.map f))) (toPy (f a)).depth; have := hA.units; omega
  · rw [any_map F.eq]; exact ⟨Kp.refl s, .bool _⟩
theorem cmp_NotIn {α : Type} [DecidableEq α] {f : α → D} {n : Nat} (F : Enc f n) (hn : n ≤ 60) {a : α} {l : List α} {X : Addr → Prop} {A : Around} {s : Shared} {v u : Value} (hA : Room k A) (h1 : Rd X s.heap v (f a)) (h2 : Rd X s.heap u (.list (l.map f))) : Gives c X A (compareOp .NotIn v u) (.bool (!decide (a ∈ l))) s := fun E => by
  obtain ⟨as, p⟩ := h1.reads (F.raw a)
  obtain ⟨bs, q⟩ := h2.reads ((enc_list F).raw l)
  rw [toPy] at q
  refine SeqAt.notIn_list_reads q p (lay_map F.lay l) (F.lay a) ?_ ?_
  · have h3 := F.depth a; have h4 := Nat.min_le_right (PyData.depthAll (toPys (l.map f))) (toPy (f a)).depth; have := hA.units; omega
  · rw [any_map F.eq]; exact ⟨Kp.refl s, .bool _⟩

variable {l r : Expr} {pos : Pos}
theorem cmp_le {a b : Int} {X : Addr → Prop} {A : Around} {s : Shared} {v u : Value} (h1 : Rd X s.heap v (.int a)) (h2 : Rd X s.heap u (.int b)) : Gives c X A (compareOp .LtE v u) (.bool (decide (a ≤ b))) s := fun E => by
  cases h1; cases h2; exact PyProof.Rows.le_int ⟨Kp.refl s, .bool _⟩
theorem cmp_ge {a b : Int} {X : Addr → Prop} {A : Around} {s : Shared} {v u : Value} (h1 : Rd X s.heap v (.int a)) (h2 : Rd X s.heap u (.int b)) : Gives c X A (compareOp .GtE v u) (.bool (decide (b ≤ a))) s := fun E => by
  cases h1; cases h2; exact PyProof.Rows.ge_int ⟨Kp.refl s, .bool _⟩

theorem ev_mul {a b : Int} (ha : Ev c k env ρ μ l (.int a)) (hb : Ev c k env ρ μ r (.int b)) (hm : IntMulOk a b) : Ev c k env ρ μ (.BinOp l .Mult r pos) (.int (a * b)) :=
  ev_bin ha hb fun X A s v u _ h1 h2 _ E => by cases h1; cases h2; exact PyProof.Rows.mul_int ⟨Kp.tok s _, .int _ _⟩ hm
theorem ev_fdiv {a b : Int} (ha : Ev c k env ρ μ l (.int a)) (hb : Ev c k env ρ μ r (.int b)) (h0 : b ≠ 0) (hs : b.natAbs < 1073741824) : Ev c k env ρ μ (.BinOp l .FloorDiv r pos) (.int (a.fdiv b)) :=
  ev_bin ha hb fun X A s v u _ h1 h2 _ E => by cases h1; cases h2; exact PyProof.Rows.floordiv_int h0 ⟨Kp.tok s _, .int _ _⟩ (.inl (PyProof.noPylong_small hs))
theorem ev_pow {a b : Int} (ha : Ev c k env ρ μ l (.int a)) (hb : Ev c k env ρ μ r (.int b)) (h0 : 0 ≤ b) (h1 : b ≤ 1000000) (h2 : a.natAbs < 2 ^ 64) : Ev c k env ρ μ (.BinOp l .Pow r pos) (.int (a ^ b.toNat)) :=
  ev_bin ha hb fun X A s v u _ r1 r2 _ E => by cases r1; cases r2; exact PyProof.Rows.pow_int_small h0 h1 h2 ⟨Kp.tok s _, .int _ _⟩

theorem ev_catL {xs ys : List D} (ha : Ev c k env ρ μ l (.list xs)) (hb : Ev c k env ρ μ r (.list ys)) (hlen : xs.length + ys.length ≤ 16777216) : Ev c k env ρ μ (.BinOp l .Add r pos) (.list (xs ++ ys)) :=
  ev_bin ha hb fun X A s v u _ r1 r2 hl E => by
    cases r1 with
    | list hX ho hc hd hr =>
      rename_i a o vs n
      cases r2 with
      | list hX2 ho2 hc2 hd2 hr2 =>
        rename_i a2 o2 vs2 n2
        obtain ⟨cls, dd, data, sl⟩ := o
        obtain ⟨cls2, dd2, data2, sl2⟩ := o2
        simp only at hc hd hc2 hd2
        subst hc hd hc2 hd2
        have hv : vs.size = xs.length := by have := hr.length; simpa using this
        have hv2 : vs2.size = ys.length := by have := hr2.length; simpa using this
        refine concat_meets ⟨_, ho, rfl⟩ ⟨_, ho2, rfl⟩ noFill_list_add seq_list_add PySem.F.slot_list_add PySem.F.entry_list_add (PySem.F.args_list_add_2 _ _) (list_addW a a2 vs vs2 n n2 dd dd2 sl sl2 (by rw [hv, hv2, sizeLine_eq]; exact hlen)) ⟨ho, ho2, ?_⟩
        refine ⟨Kp.push s _ _, .list (new_notX hl) (Heap.get?_push_size _ rfl) rfl rfl ?_⟩
        have hk : Sub s.heap (s.heap.push { cls := .type "list", data := .seq (vs ++ vs2) }) := fun _ _ e => Heap.get?_push_of_some _ e
        simpa using (hr.keep hk).append (hr2.keep hk)

theorem ev_neg {e : Expr} {a : Int} (ha : Ev c k env ρ μ e (.int a)) : Ev c k env ρ μ (.UnaryOp .USub e pos) (.int (-a)) := by
  intro X A s hA R E
  show wpAny _ _ (do let v ← eval e env; standAt pos; holding [v] (unaryOp .USub v)) _ _ s
  refine wpAny_bind (gives_bind (ha X A s hA R) fun v s₁ k₁ r₁ => wpAny_bind (wpAny_standAt (wpAny_holding ?_)))
  cases r₁
  exact PyProof.Rows.neg_int ⟨k₁.trans (Kp.tok s₁ _), .int _ _⟩

/-! ## items -/
theorem ev_item {e i : Expr} {ds : List D} {n : Int} {d : D} (he : Ev c k env ρ μ e (.list ds)) (hi : Ev c k env ρ μ i (.int n)) (h0 : 0 ≤ n) (hd : ds[n.toNat]? = some d) (hlen : ds.length ≤ 16777216)
    (hs : ∀ o v, subscripted i false o v = operate [o, v] (getItem o v) := by intro _ _; with_unfolding_all rfl) : Ev c k env ρ μ (.Subscript e i pos) d := by
  intro X A s hA R E
  refine Subscript_ (gives_bind (he X A s hA R) fun v s₁ k₁ r₁ => gives_bind (hi X A s₁ hA (R.keep k₁.sub)) fun u s₂ k₂ r₂ => ?_)
  cases r₂
  cases r₁.keep k₂.sub with
  | list hX ho hc hd' hr =>
    rename_i a o vs m
    obtain ⟨x, hx, rx⟩ := hr.get hd
    have hlt : n.toNat < ds.length := (List.getElem?_eq_some_iff.mp hd).1
    have hl : s₂.heap.IsList a vs := ⟨o, ho, hc, m, hd'⟩
    exact tail_any hl.typeIs slot_list_getitem.lookup (wpAny_getItem_list hl h0 (by omega) (by simpa using hx) ⟨k₁.trans k₂, rx⟩) (hs _ _)
theorem ev_itemNeg {e i : Expr} {ds : List D} {n : Int} {d : D} (he : Ev c k env ρ μ e (.list ds)) (hi : Ev c k env ρ μ i (.int n)) (h0 : n < 0) (h1 : -(ds.length : Int) ≤ n) (hd : ds[(n + ds.length).toNat]? = some d) (hlen : ds.length ≤ 16777216)
    (hs : ∀ o v, subscripted i false o v = operate [o, v] (getItem o v) := by intro _ _; with_unfolding_all rfl) : Ev c k env ρ μ (.Subscript e i pos) d := by
  intro X A s hA R E
  refine Subscript_ (gives_bind (he X A s hA R) fun v s₁ k₁ r₁ => gives_bind (hi X A s₁ hA (R.keep k₁.sub)) fun u s₂ k₂ r₂ => ?_)
  cases r₂
  cases r₁.keep k₂.sub with
  | list hX ho hc hd' hr =>
    rename_i a o vs m
    have hv : vs.size = ds.length := by have := hr.length; simpa using this
    obtain ⟨x, hx, rx⟩ := hr.get hd
    have hl : s₂.heap.IsList a vs := ⟨o, ho, hc, m, hd'⟩
    exact tail_any hl.typeIs slot_list_getitem.lookup (wpAny_getItem_list_neg hl h0 (by rw [hv]; exact h1) (by omega) (by rw [hv]; simpa using hx) ⟨k₁.trans k₂, rx⟩) (hs _ _)
theorem ev_itemT {e i : Expr} {ds : List D} {n : Int} {d : D} (he : Ev c k env ρ μ e (.tuple ds)) (hi : Ev c k env ρ μ i (.int n)) (h0 : 0 ≤ n) (h1 : n < 2 ^ 62) (hd : ds[n.toNat]? = some d)
    (hs : ∀ o v, subscripted i false o v = operate [o, v] (getItem o v) := by intro _ _; with_unfolding_all rfl) : Ev c k env ρ μ (.Subscript e i pos) d := by
  intro X A s hA R E
  refine Subscript_ (gives_bind (he X A s hA R) fun v s₁ k₁ r₁ => gives_bind (hi X A s₁ hA (R.keep k₁.sub)) fun u s₂ k₂ r₂ => ?_)
  cases r₂
  cases r₁.keep k₂.sub with
  | tuple hX ho hc hd' hr =>
    rename_i a o vs m
    obtain ⟨x, hx, rx⟩ := hr.get hd
    have hlt : n.toNat < ds.length := (List.getElem?_eq_some_iff.mp hd).1
    have hv : vs.toList.length = ds.length := hr.length
    have ht : IsTup s₂.heap a vs.toList.toArray := ⟨o, ho, hc, m, by simpa using hd'⟩
    refine item_tupleT ht (by omega) (by omega) (j := n.toNat) ?_ hx ⟨k₁.trans k₂, rx⟩ (hs _ _)
    rw [hv]; unfold seqIndex?; simp; omega

/-! ## tests -/
theorem tr_plain {e : Expr} {b : Bool} (he : Ev c k env ρ μ e (.bool b)) (hp : ∀ whole, isTrue e env whole = (do let v ← whole; standAt e.pos; holding [v] (truthy v)) := by intro _; rfl) : Tr c k env ρ μ e b := by
  intro X A s E hA R
  refine isTrue_plain (gives_bind (he X A s hA R) fun v s₁ k₁ r₁ => ?_) (hp _)
  cases r₁
  exact wpAny_truthy_bool ⟨k₁, rfl⟩
theorem tr_not {e : Expr} {b : Bool} (he : Tr c k env ρ μ e b) : Tr c k env ρ μ (.UnaryOp .Not e pos) (!b) := by
  intro X A s E hA R
  exact isTrue_not (wpAny_mono (he X A s E hA R) (fun v s₁ q => ⟨q.1, by rw [q.2]⟩) fun _ _ e => e)
theorem tr_and {e : Expr} {es : List Expr} {a b : Bool} (he : Tr c k env ρ μ e a) (hr : a = true → Tr c k env ρ μ (.BoolOp .And es pos) b) (hf : a = false → b = false) : Tr c k env ρ μ (.BoolOp .And (e :: es) pos) b := by
  intro X A s E hA R
  refine isTrue_and (wpAny_mono (he X A s E hA R) (fun v s₁ q => ?_) fun _ _ e => e)
  obtain ⟨k₁, rfl⟩ := q
  cases v with
  | true => exact wpAny_mono (hr rfl X A s₁ E hA (R.keep k₁.sub)) (fun v s₂ q => ⟨k₁.trans q.1, q.2⟩) fun _ _ e => e
  | false => exact ⟨k₁, (hf rfl).symm⟩
theorem tr_and0 : Tr c k env ρ μ (.BoolOp .And [] pos) true := fun _ _ s _ _ _ => isTrue_and_nil ⟨Kp.refl s, rfl⟩
theorem tr_or {e : Expr} {es : List Expr} {a b : Bool} (he : Tr c k env ρ μ e a) (hr : a = false → Tr c k env ρ μ (.BoolOp .Or es pos) b) (hf : a = true → b = true) : Tr c k env ρ μ (.BoolOp .Or (e :: es) pos) b := by
  intro X A s E hA R
  refine isTrue_or (wpAny_mono (he X A s E hA R) (fun v s₁ q => ?_) fun _ _ e => e)
  obtain ⟨k₁, rfl⟩ := q
  cases v with
  | true => exact ⟨k₁, (hf rfl).symm⟩
  | false => exact wpAny_mono (hr rfl X A s₁ E hA (R.keep k₁.sub)) (fun v s₂ q => ⟨k₁.trans q.1, q.2⟩) fun _ _ e => e
theorem tr_or0 : Tr c k env ρ μ (.BoolOp .Or [] pos) false := fun _ _ s _ _ _ => isTrue_or_nil ⟨Kp.refl s, rfl⟩

/-- and, or of bools as values -/
theorem ev_bool1 {op : BoolOp} {e : Expr} {d : D} (he : Ev c k env ρ μ e d) : Ev c k env ρ μ (.BoolOp op [e] pos) d := fun X A s hA R E => BoolOp_one (he X A s hA R E)
theorem ev_and {e e' : Expr} {es : List Expr} {a b : Bool} (he : Ev c k env ρ μ e (.bool a)) (hr : a = true → Ev c k env ρ μ (.BoolOp .And (e' :: es) pos) (.bool b)) (hf : a = false → b = false) : Ev c k env ρ μ (.BoolOp .And (e :: e' :: es) pos) (.bool b) := by
  intro X A s hA R E
  refine BoolOp_and (gives_bind (he X A s hA R) fun v s₁ k₁ r₁ => ?_)
  cases r₁
  refine wpAny_truthy_bool ?_
  cases a with
  | true => exact gives_after (hr rfl X A s₁ hA (R.keep k₁.sub)) k₁
  | false => rw [hf rfl]; exact ⟨k₁, .bool _⟩
theorem ev_or {e e' : Expr} {es : List Expr} {a b : Bool} (he : Ev c k env ρ μ e (.bool a)) (hr : a = false → Ev c k env ρ μ (.BoolOp .Or (e' :: es) pos) (.bool b)) (hf : a = true → b = true) : Ev c k env ρ μ (.BoolOp .Or (e :: e' :: es) pos) (.bool b) := by
  intro X A s hA R E
  refine BoolOp_or (gives_bind (he X A s hA R) fun v s₁ k₁ r₁ => ?_)
  cases r₁
  refine wpAny_truthy_bool ?_
  cases a with
  | true => rw [hf rfl]; exact ⟨k₁, .bool _⟩
  | false => exact gives_after (hr rfl X A s₁ hA (R.keep k₁.sub)) k₁

/-! ## range -/
def upto (n : Int) : List Int := (List.range n.toNat).map fun i : Nat => (i : Int)
theorem mem_upto {n x : Int} : x ∈ upto n ↔ 0 ≤ x ∧ x < n := by
  unfold upto
  simp only [List.mem_map, List.mem_range]
  constructor
  · rintro ⟨i, h, rfl⟩; omega
  · intro h; exact ⟨x.toNat, by omega, by omega⟩
theorem src_range {x : Str} {px pos : Pos} {e : Expr} {n : Int} (hg : c.mg x = none) (hb : bootBuiltins x = some (.type "range")) (he : Ev c k env ρ μ e (.int n)) (h1 : n < 2 ^ 62) (h0 : -(2 ^ 62) ≤ n) (hs : notStar e = true := by rfl) (hn : x ≠ "__name__" := by decide)
    (hx : env.kindOf x = some .globalImplicit := by rfl) (hd : (x == ("__debug__" : Str)) = false := by decide) : Src c k env ρ μ (.Call (.Name x px) [e] [] pos) ((upto n).map .int) := by
  intro X A s E hA R
  refine Call_ (name_builtin R hx hg hb hn ?_ hd)
  refine callWith_plain R hA (.cons he .nil hs) (fun s' k' => ⟨.machine, .inr rfl, fun Q' hq => wpAny_pure hq⟩) (by intro h; cases h) fun vs s₁ k₁ r₁ => ?_
  cases r₁ with
  | cons r1 r2 =>
    cases r2
    cases r1
    refine call_range_1 ?_
    refine wpAny_pyIter_range (IsRange.new ..) (small_one (by decide) (by decide) h0 h1) ?_
    have hsz : Builtin.Range.rangeSize 0 n 1 = (n.toNat : Int) := by rw [rangeSize_one]; split <;> omega
    have hlen : ((upto n).map D.int).length = n.toNat := by simp [upto]
    generalize hH : s₁.heap.push { cls := .type "range", data := .fields #[.int 0 s₁.toks, .int n _, .int 1 (s₁.toks + 1)] } = H
    have hk : Sub s.heap H := fun a o e => hH ▸ Heap.get?_push_of_some _ (k₁.sub a o e)
    have hnew : H.get? H.objs.size = none := by
      cases h : H.get? H.objs.size with
      | none => rfl
      | some o => exact absurd (Heap.lt_size h) (Nat.lt_irrefl _)
    have hW := Walks.range (prog := c.prog) (w := c.w) hA.handled H.objs.size 0 1 n.toNat
    refine ⟨_, _, _, _, _, rfl, hlen.symm ▸ hW, ?_, ?_, fun b hb => ?_, fun b hb => ?_, fun i h st b hb => ?_, fun i d v hi hv => ?_⟩
    · have e1 : (0 + ((0 : Nat) : Int) * 1) = 0 := by simp
      have e2 : ((((upto n).map D.int).length : Int) - ((0 : Nat) : Int)) = Builtin.Range.rangeSize 0 n 1 := by rw [hsz, hlen]; simp
      rw [e1, e2]
      exact Heap.get?_push_size _ rfl
    · exact ⟨fun a o e => Heap.get?_push_of_some _ (hk a o e), k₁.same.trans ⟨rfl, rfl⟩⟩
    · simp at hb; subst hb
      cases h : s.heap.get? H.objs.size with
      | none => rfl
      | some o => rw [hk _ _ h] at hnew; cases hnew
    · simp at hb; subst hb
      exact ⟨.inl (by simp), _, Heap.get?_push_size _ rfl⟩
    · simp at hb; subst hb
      exact ⟨_, st⟩
    · obtain ⟨t, rfl⟩ := hv
      simp [upto] at hi
      obtain ⟨w, hw, rfl⟩ := hi
      obtain ⟨_, rfl⟩ := List.getElem?_eq_some_iff.mp hw
      rw [List.getElem_range]
      have : (0 + (i : Int) * 1) = (i : Int) := by omega
      rw [this]; exact .int _ _
end
end Mine
end

/-! # M9 -/
section
set_option autoImplicit false
namespace Mine
open PySem PySem.Calls PyProof.Rows

def scalar : D → Bool
  | .none | .bool _ | .int _ | .str _ => true
  | _ => false
theorem Rd.scalar {X X' : Addr → Prop} {h h' : Heap} {v : Value} {d : D} (r : Rd X h v d) (hs : scalar d = true) : Rd X' h' v d := by
  cases r <;> first | exact .none | exact .bool _ | exact .int _ _ | exact .str _ _ | cases hs
theorem RdAll.scalar {X X' : Addr → Prop} {h h' : Heap} : ∀ {vs : List Value} {ds : List D}, RdAll X h vs ds → (∀ d ∈ ds, scalar d = true) → RdAll X' h' vs ds
  | _, _, .nil, _ => .nil
  | _, _, .cons a r, hs => .cons (a.scalar (hs _ (.head _))) (r.scalar fun d hd => hs d (.tail _ hd))

/-- an expression that gives a list of its own -/
def EvF (c : Cx) (k : Nat) (env : Env) (ρ : Vars) (μ : Mem) (e : Expr) (ds : List D) : Prop :=
  ∀ X A s E, Room k A → Rc c X env ρ μ s → wpAny (model c.prog c.w) A (eval e env) (fun v s' => Kp s s' ∧ ∃ a vs, v = .ref a ∧ s.heap.get? a = none ∧ PL s'.heap a vs ∧ RdAll (fun b => X b ∨ b = a) s'.heap vs.toList ds) E s

section
variable {c : Cx} {k : Nat} {env : Env} {ρ : Vars} {μ : Mem}

theorem EvF.ev {e : Expr} {ds : List D} (h : EvF c k env ρ μ e ds) : Ev c k env ρ μ e (.list ds) := by
  intro X A s hA R E
  refine wpAny_mono (h X A s E hA R) (fun v s' q => ?_) fun _ _ e => e
  obtain ⟨k', a, vs, rfl, hn, ⟨o, e, hc, hd, n, hdat⟩, hr⟩ := q
  refine ⟨k', .list (fun hx => ?_) e hc hdat (hr.weak fun _ h => .inl h)⟩
  obtain ⟨o, e⟩ := R.live a hx; rw [hn] at e; cases e

/-- a mutable list of the call's own, new -/
theorem St.addM {X₀ : Addr → Prop} {s s' : Shared} {a : Addr} {ds : List D} {vs : Array Value} (S : St c X₀ env ρ μ s) (k : Kp s s') (n : s.heap.get? a = none) (hl : PL s'.heap a vs) (hr : RdAll (XOf X₀ env ((a, ds) :: μ)) s'.heap vs.toList ds) :
    St c X₀ env ρ ((a, ds) :: μ) s' := by
  have S' := S.kp k
  have k' := k.sub
  have nM : ¬ Mut env μ a := fun m => by obtain ⟨o, e⟩ := S.live' m; rw [n] at e; cases e
  have hM : ∀ b, Mut env ((a, ds) :: μ) b → b = a ∨ Mut env μ b := fun b m => by
    rcases m with m | m | ⟨es, m⟩
    · exact .inr (.inl m)
    · exact .inr (.inr (.inl m))
    · rcases List.mem_cons.mp m with q | q
      · cases q; exact .inl rfl
      · exact .inr (.inr (.inr ⟨es, q⟩))
  have hx : ∀ b o, ¬ XOf X₀ env μ b → s.heap.get? b = some o → ¬ XOf X₀ env ((a, ds) :: μ) b ∧ s'.heap.get? b = some o := fun b o q e => by
    refine ⟨?_, k' b o e⟩
    rintro (y | y)
    · exact q (.inl y)
    · rcases hM b y with y | y
      · rw [y, n] at e; cases e
      · exact q (.inr y)
  refine { S' with own := fun b m => ?_, vars := fun x d e => ?_, mem := fun b es m => ?_, nodup := ?_, memX := fun b es m q => ?_ }
  · rcases hM b m with q | q
    · subst q
      cases e : c.base.get? b with
      | none => rfl
      | some o => rw [S.base b o e] at n; cases n
    · exact S.own b q
  · obtain ⟨v, y, r⟩ := S.vars x d e; exact ⟨v, y.keep k', r.mono hx⟩
  · rcases List.mem_cons.mp m with q | q
    · cases q; exact ⟨vs, hl, hr⟩
    · obtain ⟨us, ⟨o, e, y⟩, r⟩ := S.mem b es q; exact ⟨us, ⟨o, k' b o e, y⟩, r.mono hx⟩
  · rw [List.map_cons, List.nodup_cons]
    refine ⟨fun h => ?_, S.nodup⟩
    obtain ⟨⟨b, es⟩, hm, e⟩ := List.mem_map.mp h
    exact nM (.inr (.inr ⟨es, (show b = a from e) ▸ hm⟩))
  · rcases List.mem_cons.mp m with z | z
    · cases z; obtain ⟨o, e⟩ := S.live _ q; rw [n] at e; cases e
    · exact S.memX b es z q

theorem Go.addM {s s' : Shared} {a : Addr} {ds : List D} (k : Kp s s') (n : s.heap.get? a = none) : Go env μ s ((a, ds) :: μ) s' := by
  refine ⟨k.same, fun b o _ q => k.sub b o q, fun b o q => ⟨o, k.sub b o q⟩, fun b es h => ?_⟩
  rcases List.mem_cons.mp h with q | q
  · cases q; exact .inr n
  · exact .inl ⟨es, q⟩

/-- x = a list of its own: it may change from here -/
theorem ex_assignF {Q : Out → Vars → Mem → Prop} {x : Str} {px pos : Pos} {e : Expr} {ds : List D} (he : EvF c k env ρ μ e ds) (h : ∀ a, (∀ es, (a, es) ∉ μ) → Q .next ((x, .raw (.ref a)) :: ρ) ((a, ds) :: μ)) (hx : stor env x = true := by rfl)
    (hs : swapsWith e (some (.Name x px)) pos.line env = pure false := by rfl) : Ex1 c k env ρ μ (.Assign [.Name x px] e pos) Q := by
  intro X₀ A s E hA S
  refine wpAny_Assign_Name (wpAny_mono (he _ A s E hA S.rc) (fun v s₁ q => ?_) fun _ _ e => e) hs
  obtain ⟨k₁, a, vs, rfl, hn, hl, hr⟩ := q
  have S₁ : St c X₀ env ρ ((a, ds) :: μ) s₁ := S.addM k₁ hn hl (hr.weak fun b hb => by
    rcases hb with y | y | y | ⟨es, y⟩
    · exact .inl (.inl y)
    · exact .inl (.inr (.inl y))
    · exact .inl (.inr (.inr (.inl y)))
    · rcases List.mem_cons.mp y with q | q
      · cases q; exact .inr rfl
      · exact .inl (.inr (.inr (.inr ⟨es, q⟩))))
  refine st_store S₁ hx (.raw _) fun s' S' g => ⟨.next, _, _, trivial, S', (Go.addM k₁ hn).trans g, h a fun es m => ?_⟩
  obtain ⟨o, e⟩ := S.live' (.inr (.inr ⟨es, m⟩)); rw [hn] at e; cases e

theorem evF_nil {pos : Pos} : EvF c k env ρ μ (.List [] pos) [] := by
  intro X A s E hA R
  refine List_ (args_nil ?_)
  refine wpAny_newObj_type ⟨Kp.push s _ _, s.heap.objs.size, #[], rfl, ?_, ⟨_, Heap.get?_push_size _ rfl, rfl, rfl, _, rfl⟩, .nil⟩
  cases e : s.heap.get? s.heap.objs.size with
  | none => rfl
  | some o => exact absurd (Heap.lt_size e) (Nat.lt_irrefl _)

def setM (μ : Mem) (a : Addr) (ds : List D) : Mem := μ.map fun p => if p.1 = a then (a, ds) else p
theorem setM_keys (μ : Mem) (a : Addr) (ds : List D) : (setM μ a ds).map (·.1) = μ.map (·.1) := by
  unfold setM
  rw [List.map_map]
  refine List.map_congr_left fun p _ => ?_
  simp only [Function.comp]
  split
  · rename_i h; exact h.symm
  · rfl
theorem mem_setM {μ : Mem} {a b : Addr} {ds es : List D} (h : (b, es) ∈ setM μ a ds) : (b = a ∧ es = ds ∧ ∃ es', (b, es') ∈ μ) ∨ (b ≠ a ∧ (b, es) ∈ μ) := by
  obtain ⟨⟨p, q⟩, hm, e⟩ := List.mem_map.mp h
  dsimp only at e
  split at e
  · rename_i hp; cases e; exact .inl ⟨rfl, rfl, q, hp ▸ hm⟩
  · rename_i hp; cases e; exact .inr ⟨hp, hm⟩
theorem mem_unique {μ : Mem} (hn : (μ.map (·.1)).Nodup) {a : Addr} {ds es : List D} (h1 : (a, ds) ∈ μ) (h2 : (a, es) ∈ μ) : ds = es := by
  induction μ with
  | nil => cases h1
  | cons p r ih =>
    rw [List.map_cons, List.nodup_cons] at hn
    rcases List.mem_cons.mp h1 with q | q <;> rcases List.mem_cons.mp h2 with z | z
    · rw [← q] at z; exact (Prod.mk.inj z).2.symm
    · exact absurd (List.mem_map.mpr ⟨_, z, by rw [← q]⟩) hn.1
    · exact absurd (List.mem_map.mpr ⟨_, q, by rw [← z]⟩) hn.1
    · exact ih hn.2 q z

/-- a change of one own list -/
theorem St.setM {X₀ : Addr → Prop} {s : Shared} {h' : Heap} {tk : Nat} {a : Addr} {ds es : List D} {vs : Array Value} (S : St c X₀ env ρ μ s) (hm : (a, ds) ∈ μ) (hs : Heap.SameBut a s.heap h') (hl : PL h' a vs) (hr : RdAll (XOf X₀ env μ) h' vs.toList es) :
    St c X₀ env ρ (Mine.setM μ a es) { s with heap := h', toks := tk } := by
  have hMa : Mut env μ a := .inr (.inr ⟨ds, hm⟩)
  have hM : ∀ b, Mut env (Mine.setM μ a es) b ↔ Mut env μ b := fun b => by
    constructor
    · rintro (m | m | ⟨fs, m⟩)
      · exact .inl m
      · exact .inr (.inl m)
      · rcases mem_setM m with ⟨_, _, q⟩ | ⟨_, q⟩
        · exact .inr (.inr q)
        · exact .inr (.inr ⟨_, q⟩)
    · rintro (m | m | ⟨fs, m⟩)
      · exact .inl m
      · exact .inr (.inl m)
      · refine .inr (.inr ?_)
        by_cases q : b = a
        · exact ⟨es, List.mem_map.mpr ⟨(b, fs), m, by simp [q]⟩⟩
        · exact ⟨fs, List.mem_map.mpr ⟨(b, fs), m, by simp [q]⟩⟩
  have hX : ∀ b, XOf X₀ env (Mine.setM μ a es) b ↔ XOf X₀ env μ b := fun b => or_congr Iff.rfl (hM b)
  have hx : ∀ b o, ¬ XOf X₀ env μ b → s.heap.get? b = some o → ¬ XOf X₀ env (Mine.setM μ a es) b ∧ h'.get? b = some o := fun b o q e => ⟨fun y => q ((hX b).mp y), hs.extBut b o (fun z => q (z ▸ .inr hMa)) e⟩
  obtain ⟨vs₀, hl₀, _⟩ := S.mem a ds hm
  have hla := hl₀.isList
  obtain ⟨m, hns⟩ := S.ns
  have hne : a ≠ env.locals := IsList_ne_Ns hla hns
  refine ⟨S.ok, fun b o e => hs.extBut b o (fun z => ?_) (S.base b o e), fun b y => S.own b ((hM b).mp y), fun b y => ?_, ⟨m, hns.sameBut hs hne.symm⟩, fun n b y => ?_, S.apart, fun x d e => ?_, fun b fs y => ?_, ?_, fun b fs y q => ?_⟩
  · have := S.own a hMa; rw [← z, e] at this; cases this
  · by_cases q : b = a
    · obtain ⟨o, e, _⟩ := hl; exact ⟨o, q ▸ e⟩
    · obtain ⟨o, e⟩ := S.live b y; exact ⟨o, hs.extBut b o q e⟩
  · obtain ⟨ov, hc⟩ := S.cel n b y
    exact ⟨ov, hc.sameBut hs (IsList_ne_Cell hla hc).symm⟩
  · obtain ⟨v, y, r⟩ := S.vars x d e
    refine ⟨v, ?_, r.mono hx⟩
    rcases y with ⟨y, m', n', q⟩ | ⟨y, c', q, i⟩
    · exact .inl ⟨y, m', n'.sameBut hs hne.symm, q⟩
    · exact .inr ⟨y, c', q, i.sameBut hs (IsList_ne_Cell hla i).symm⟩
  · rcases mem_setM y with ⟨rfl, rfl, _⟩ | ⟨hb, q⟩
    · exact ⟨vs, hl, hr.weak fun b z => (hX b).mp z⟩
    · obtain ⟨us, hl', r⟩ := S.mem b fs q
      exact ⟨us, hl'.extBut hs.extBut hb, r.mono hx⟩
  · rw [setM_keys]; exact S.nodup
  · rcases mem_setM y with ⟨rfl, _, _⟩ | ⟨_, z⟩
    · exact S.memX _ _ hm q
    · exact S.memX _ _ z q
theorem Go.setM {s : Shared} {h' : Heap} {tk : Nat} {a : Addr} {ds es : List D} {vs : Array Value} (hm : (a, ds) ∈ μ) (hs : Heap.SameBut a s.heap h') (hl : PL h' a vs) : Go env μ s (Mine.setM μ a es) { s with heap := h', toks := tk } := by
  have g := Go.but (env := env) (tk := tk) (.inr (.inr ⟨ds, hm⟩)) hs (let ⟨o, e, _⟩ := hl; ⟨o, e⟩)
  refine ⟨g.same, g.keep, g.alive, fun b fs y => ?_⟩
  rcases mem_setM y with ⟨_, _, q⟩ | ⟨_, q⟩
  · exact .inl q
  · exact .inl ⟨_, q⟩

/-- x.append(e) -/
theorem ex_append {Q : Out → Vars → Mem → Prop} {x : Str} {px apos cpos pos : Pos} {e : Expr} {a : Addr} {ds : List D} {d : D} (hx : ρ.lookup x = some (.raw (.ref a))) (hm : (a, ds) ∈ μ) (he : Ev c k env ρ μ e d) (hlen : ds.length ≤ 16777216)
    (h : Q .next ρ (setM μ a (ds ++ [d]))) (hd : (x == ("__debug__" : Str)) = false := by decide) (hst : notStar e = true := by rfl)
    (hline : (apos.endLine == cpos.line) = true := by rfl) (hi : interactive env = false := by rfl) (hs : swapsWith (.Call (.Attribute (.Name x px) "append" apos) [e] [] cpos) none pos.line env = pure false := by rfl) :
    Ex1 c k env ρ μ (.Expr (.Call (.Attribute (.Name x px) "append" apos) [e] [] cpos) pos) Q := by
  intro X₀ A s E hA S
  have hse : backTo cpos (starEach [e] env) = [(false, eval e env)] := by rw [starEach_cons hst]; rfl
  refine wpAny_Expr_any (wpAny_Call_append rfl (by rw [hse]; rfl) hline hse (gives_bind (ev_name (k := k) hx hd _ A s hA S.rc) fun v s₁ k₁ r₁ => ?_)) hi hs
  cases r₁
  have S₁ := S.kp k₁
  obtain ⟨vs, hl, hr⟩ := S₁.mem a ds hm
  refine ⟨a, vs, rfl, hl.plain, gives_bind (he _ A s₁ hA S₁.rc) fun u s₂ k₂ r₂ => ?_⟩
  have S₂ := S₁.kp k₂
  have hl₂ : PL s₂.heap a vs := let ⟨o, e, q⟩ := hl; ⟨o, k₂.sub a o e, q⟩
  have hv : vs.size = ds.length := by have := hr.length; simpa using this
  refine list_append_plainL (hsz := by rw [hv, sizeLine_eq]; exact hlen) hl₂.plain fun h' hl' hs' => ?_
  have hX : XOf X₀ env μ a := .inr (.inr (.inr ⟨ds, hm⟩))
  have hr' : RdAll (XOf X₀ env μ) h' (vs.push u).toList (ds ++ [d]) := by
    rw [Array.toList_push]
    exact ((hr.keep k₂.sub).but hX hs').append (.cons (r₂.but hX hs') .nil)
  exact ⟨.next, ρ, _, trivial, S₂.setM (tk := s₂.toks) hm hs' (PL.of hl') hr', (Go.of_kp (k₁.trans k₂)).trans (Go.setM (tk := s₂.toks) hm hs' (PL.of hl')), h⟩

def dropM (μ : Mem) (a : Addr) : Mem := μ.filter fun p => p.1 != a
theorem mem_dropM {μ : Mem} {a b : Addr} {ds : List D} : (b, ds) ∈ dropM μ a ↔ (b, ds) ∈ μ ∧ b ≠ a := by
  unfold dropM; simp

theorem St.dropM {X₀ : Addr → Prop} {s : Shared} {a : Addr} (S : St c X₀ env ρ μ s) : St c X₀ env ρ (Mine.dropM μ a) s := by
  have hM : ∀ b, Mut env (Mine.dropM μ a) b → Mut env μ b := fun b m => by
    rcases m with m | m | ⟨fs, m⟩
    · exact .inl m
    · exact .inr (.inl m)
    · exact .inr (.inr ⟨fs, (mem_dropM.mp m).1⟩)
  have hX : ∀ b, XOf X₀ env (Mine.dropM μ a) b → XOf X₀ env μ b := fun b y => y.imp id (hM b)
  refine { S with own := fun b m => S.own b (hM b m), vars := fun x d e => ?_, mem := fun b es m => ?_, nodup := ?_, memX := fun b es m q => S.memX b es (mem_dropM.mp m).1 q }
  · obtain ⟨v, y, r⟩ := S.vars x d e; exact ⟨v, y, r.weak hX⟩
  · obtain ⟨us, y, r⟩ := S.mem b es (mem_dropM.mp m).1; exact ⟨us, y, r.weak hX⟩
  · exact S.nodup.sublist (List.filter_sublist.map _)
theorem Go.dropM {s s' : Shared} {μ' : Mem} {a : Addr} (g : Go env (Mine.dropM μ a) s μ' s') : Go env μ s μ' s' := by
  refine ⟨g.same, fun b o n e => g.keep b o (fun m => n ?_) e, g.alive, fun b fs y => ?_⟩
  · rcases m with m | m | ⟨fs, m⟩
    · exact .inl m
    · exact .inr (.inl m)
    · exact .inr (.inr ⟨fs, (mem_dropM.mp m).1⟩)
  · rcases g.grow b fs y with ⟨gs, q⟩ | q
    · exact .inl ⟨gs, (mem_dropM.mp q).1⟩
    · exact .inr q

/-- it changes no more: x is plain data from here -/
theorem ex_freeze {Q : Out → Vars → Mem → Prop} {ss : List Stmt} {x : Str} {a : Addr} {ds : List D} (hx : ρ.lookup x = some (.raw (.ref a))) (hm : (a, ds) ∈ μ) (h : Ex c k env ((x, .list ds) :: ρ) (dropM μ a) ss Q) : Ex c k env ρ μ ss Q := by
  intro X₀ A s E hA S
  have S' : St c X₀ env ((x, .list ds) :: ρ) (dropM μ a) s := by
    have S₁ := S.dropM (a := a)
    refine { S₁ with vars := fun y d e => ?_ }
    rw [List.lookup_cons] at e
    cases hb : y == x with
    | false => rw [hb] at e; exact S₁.vars y d e
    | true =>
      rw [hb] at e
      cases e
      obtain ⟨v, hv, r⟩ := S.vars x _ hx
      cases r
      obtain ⟨vs, ⟨o, e, hc, _, n, hd⟩, hr⟩ := S.mem a ds hm
      rw [beq_iff_eq.mp hb]
      refine ⟨_, hv, .list ?_ e hc hd (hr.weak fun b z => ?_)⟩
      · rintro (y | y | ⟨n', y⟩ | ⟨fs, y⟩)
        · exact S.memX a ds hm y
        · obtain ⟨m, hns⟩ := S.ns
          exact IsList_ne_Ns ⟨o, e, hc, n, hd⟩ hns y
        · obtain ⟨ov, hcl⟩ := S.cel n' a y
          exact IsList_ne_Cell ⟨o, e, hc, n, hd⟩ hcl rfl
        · exact (mem_dropM.mp y).2 rfl
      · rcases z with z | z | z | ⟨fs, z⟩
        · exact .inl z
        · exact .inr (.inl z)
        · exact .inr (.inr (.inl z))
        · exact .inr (.inr (.inr ⟨fs, (mem_dropM.mp z).1⟩))
  exact wpAny_mono (h X₀ A s E hA S') (fun fl s' p => let ⟨o, ρ', μ', y1, y2, g, q⟩ := p; ⟨o, ρ', μ', y1, y2, g.dropM, q⟩) fun _ _ e => e
end
end Mine
end

/-! # MS1 -/
section
set_option autoImplicit false
namespace Mine
open PySem

def Rise (xs : Array Nat) : Prop := xs.toList.Pairwise (· < ·)

/-- a table that is walked as it lies -/
structure TOk (bt : Bool) (t : SetTable) : Prop where
  rise : Rise t.place
  none : t.dummies = #[]
  led : t.led = true ∨ bt = true

theorem rise_get {xs : Array Nat} (h : Rise xs) {i j : Nat} {a b : Nat} (hi : xs[i]? = some a) (hj : xs[j]? = some b) (hij : i < j) : a < b := by
  have hi' : xs.toList[i]? = some a := by simpa using hi
  have hj' : xs.toList[j]? = some b := by simpa using hj
  obtain ⟨p, rfl⟩ := List.getElem?_eq_some_iff.mp hi'
  obtain ⟨q, rfl⟩ := List.getElem?_eq_some_iff.mp hj'
  exact List.pairwise_iff_getElem.mp h i j p q hij

structure Cut (xs : Array Nat) (j p : Nat) : Prop where
  le : p ≤ xs.size
  lo : ∀ (i a : Nat), i < p → xs[i]? = some a → a < j
  hi : ∀ (i a : Nat), p ≤ i → xs[i]? = some a → j ≤ a

theorem below_go {xs : Array Nat} {j : Nat} (h : Rise xs) : ∀ (fuel lo hi : Nat), lo ≤ hi → hi ≤ xs.size → hi - lo ≤ fuel → (∀ (i a : Nat), i < lo → xs[i]? = some a → a < j) → (∀ (i a : Nat), hi ≤ i → xs[i]? = some a → j ≤ a) →
    Cut xs j (SetTable.below.go xs j fuel lo hi)
  | 0, lo, hi, h1, h2, h3, h4, h5 => by
    have : lo = hi := by omega
    subst this
    exact ⟨h2, h4, h5⟩
  | fuel + 1, lo, hi, h1, h2, h3, h4, h5 => by
    unfold SetTable.below.go
    split
    · rename_i hlt
      have hm : (lo + hi) / 2 < xs.size := by omega
      have hg : xs[(lo + hi) / 2]? = some (xs[(lo + hi) / 2]) := by simp [hm]
      dsimp only
      have hgd : xs.getD ((lo + hi) / 2) j = xs[(lo + hi) / 2] := by simp [Array.getD, hm]
      rw [hgd]
      split
      · rename_i hc
        refine below_go h fuel _ _ (by omega) h2 (by omega) (fun i a hi' e => ?_) h5
        by_cases q : i = (lo + hi) / 2
        · subst q; rw [hg] at e; cases e; exact hc
        · exact Nat.lt_trans (rise_get h e hg (by omega)) hc
      · rename_i hc
        refine below_go h fuel _ _ (by omega) (by omega) (by omega) h4 fun i a hi' e => ?_
        by_cases q : i = (lo + hi) / 2
        · subst q; rw [hg] at e; cases e; omega
        · have := rise_get h hg e (by omega); omega
    · have : lo = hi := by omega
      subst this
      exact ⟨h2, h4, h5⟩
theorem below_cut {xs : Array Nat} (h : Rise xs) (j : Nat) : Cut xs j (SetTable.below xs j) :=
  below_go h xs.size 0 xs.size (Nat.zero_le _) (Nat.le_refl _) (by omega) (fun i a hi => absurd hi (Nat.not_lt_zero _)) fun i a hi e => by
    have := (Array.getElem?_eq_some_iff.mp e).1; omega
theorem cut_unique {xs : Array Nat} {j p q : Nat} (a : Cut xs j p) (b : Cut xs j q) : p = q := by
  rcases Nat.lt_trichotomy p q with h | h | h
  · have hp : p < xs.size := Nat.lt_of_lt_of_le h b.le
    have e : xs[p]? = some xs[p] := by simp [hp]
    have h1 := b.lo p _ h e
    have h2 := a.hi p _ (Nat.le_refl _) e
    omega
  · exact h
  · have hp : q < xs.size := Nat.lt_of_lt_of_le h a.le
    have e : xs[q]? = some xs[q] := by simp [hp]
    have h1 := a.lo q _ h e
    have h2 := b.hi q _ (Nat.le_refl _) e
    omega

theorem rise_insert {xs : Array Nat} (h : Rise xs) {j : Nat} (hn : (xs[SetTable.below xs j]? == some j) = false) : Rise (SetTable.insertAt xs (SetTable.below xs j) j) := by
  have c := below_cut h j
  unfold Rise
  rw [SetTable.toList_insertAt, List.pairwise_append, List.pairwise_cons]
  have mtake : ∀ a ∈ xs.toList.take (SetTable.below xs j), a < j := fun a ha => by
    obtain ⟨i, hi, e⟩ := List.mem_iff_getElem.mp ha
    rw [List.getElem_take] at e
    rw [List.length_take] at hi
    refine c.lo i a (by omega) ?_
    rw [← Array.getElem?_toList, ← e]; simp
  have mdrop : ∀ a ∈ xs.toList.drop (SetTable.below xs j), j < a := fun a ha => by
    obtain ⟨i, hi, e⟩ := List.mem_iff_getElem.mp ha
    rw [List.getElem_drop] at e
    rw [List.length_drop] at hi
    have e' : xs[SetTable.below xs j + i]? = some a := by rw [← Array.getElem?_toList, ← e]; simp
    have h1 := c.hi _ a (Nat.le_add_right _ _) e'
    by_cases q : j = a
    · exfalso
      subst q
      by_cases z : i = 0
      · subst z; rw [Nat.add_zero] at e'; rw [e'] at hn; simp at hn
      · have hs : SetTable.below xs j < xs.size := by simp at hi; omega
        have e0 : xs[SetTable.below xs j]? = some (xs[SetTable.below xs j]) := by simp [hs]
        have h2 := c.hi _ _ (Nat.le_refl _) e0
        have h3 := rise_get h e0 e' (by omega)
        omega
    · omega
  exact ⟨h.sublist (List.take_sublist _ _), ⟨mdrop, h.sublist (List.drop_sublist _ _)⟩, fun a ha b hb => by
    rcases List.mem_cons.mp hb with q | q
    · rw [q]; exact mtake a ha
    · exact Nat.lt_trans (mtake a ha) (mdrop b q)⟩

theorem has_nil (j : Nat) : SetTable.has #[] j = false := by
  unfold SetTable.has; simp

theorem probe_go {t : SetTable} {f : Nat → Int} {h : Int} (hd : t.dummies = #[]) : ∀ (fuel : Nat) (p : SetTable.Probe) (j : Nat) (d : Option Nat), p.dummy = none → SetTable.probe.go t f h fuel p = some (.empty j d) → d = none ∧ t.slot j = .empty
  | 0, _, _, _, _, e => by simp [SetTable.probe.go] at e
  | fuel + 1, p, j, d, hp, e => by
    have adv : (t.advance p).dummy = none := by unfold SetTable.advance; split <;> exact hp
    unfold SetTable.probe.go at e
    split at e
    · rename_i hs
      cases e
      exact ⟨hp, hs⟩
    · rename_i hs
      exfalso
      unfold SetTable.slot at hs
      dsimp only at hs
      rw [hd, has_nil] at hs
      split at hs
      · cases hs
      · simp at hs
    · split at e
      · cases e
      · exact probe_go hd fuel _ j d adv e

theorem put_ok {bt : Bool} {t : SetTable} {j : Nat} (h : TOk bt t) (hs : t.slot j = .empty) : TOk bt (t.put j).1 := by
  have hn : (t.place[SetTable.below t.place j]? == some j) = false := by
    unfold SetTable.slot at hs
    dsimp only at hs
    split at hs
    · cases hs
    · rename_i q; simpa using q
  unfold SetTable.put
  dsimp only
  refine ⟨rise_insert h.rise hn, ?_, h.led⟩
  rw [h.none, has_nil]; simp

theorem standIn_ok {bt : Bool} {t : SetTable} {n : Nat} (h : TOk bt t) : TOk bt (t.standIn n) := by
  refine ⟨?_, rfl, h.led⟩
  unfold Rise SetTable.standIn
  dsimp only
  rw [Array.toList_range]
  exact List.pairwise_lt_range
theorem orStandIn_ok {bt : Bool} {t : SetTable} {n : Nat} (h : TOk bt t) : TOk bt (t.orStandIn n) := by
  unfold SetTable.orStandIn; split
  · exact h
  · exact standIn_ok h

theorem layNew_ok {bt : Bool} {t : SetTable} {es : Array (Int × Value)} {h : Int} {x : Value} (ok : TOk bt t) : TOk bt (layNew t es h x).2.1 := by
  unfold layNew
  split
  · rename_i slot wd hf
    dsimp only
    refine orStandIn_ok (put_ok ok ?_)
    unfold SetTable.freeSlot at hf
    split at hf
    · rename_i j d hp
      cases hf
      obtain ⟨rfl, q⟩ := probe_go ok.none _ _ _ _ rfl hp
      exact q
    · cases hf
  · exact standIn_ok ok

theorem laid_ok {bt : Bool} {mask finger moves : Nat} {led plain : Bool} {hs : Array Int} {t : SetTable} {order : Array Nat} (hl : led = true ∨ bt = true) (e : SetTable.laid mask finger moves led plain hs = some (t, order)) : TOk bt t := by
  unfold SetTable.laid at e
  cases ho : SetTable.layClean mask hs with
  | none => rw [ho] at e; cases e
  | some owner =>
    rw [ho] at e
    cases e
    refine ⟨?_, rfl, hl⟩
    unfold Rise
    dsimp only
    have key : ∀ l : List Nat, (l.filterMap fun j => (owner.getD j none).map (j, ·)).map (·.1) = l.filter fun j => (owner.getD j none).isSome := by
      intro l
      induction l with
      | nil => rfl
      | cons a l ih =>
        rw [List.filterMap_cons, List.filter_cons]
        cases hq : owner.getD a none with
        | none => simpa using ih
        | some b => simpa using ih
    rw [key]
    exact List.pairwise_lt_range.sublist List.filter_sublist
theorem relayAll_ok {bt : Bool} {t : SetTable} {es : Array (Int × Value)} {n : Nat} (ok : TOk bt t) : TOk bt (relayAll t es n).2.1 := by
  unfold relayAll
  split
  · rename_i t' order he
    dsimp only
    split
    · exact laid_ok ok.led he
    · exact standIn_ok ok
  · exact standIn_ok ok

/-- the walk of a table in order -/
theorem walk_at {xs : Array Nat} (h : Rise xs) (i : Nat) (hi : i ≤ xs.size) : SetTable.below xs (if i = 0 then 0 else xs.getD (i - 1) 0 + 1) = i := by
  refine cut_unique (below_cut h _) ?_
  by_cases z : i = 0
  · subst z
    simp only [if_true]
    exact ⟨Nat.zero_le _, fun i a hi => absurd hi (Nat.not_lt_zero _), fun _ _ _ _ => Nat.zero_le _⟩
  · rw [if_neg z]
    have hs : i - 1 < xs.size := by omega
    have hg : xs.getD (i - 1) 0 = xs[i - 1] := by simp [Array.getD, hs]
    have e0 : xs[i - 1]? = some (xs[i - 1]) := by simp [hs]
    rw [hg]
    refine ⟨hi, fun k a hk e => ?_, fun k a hk e => ?_⟩
    · by_cases q : k = i - 1
      · subst q; rw [e0] at e; cases e; omega
      · have := rise_get h e e0 (by omega); omega
    · have := rise_get h e0 e (by omega); omega

theorem erase_perm {α : Type} {l : List α} {i : Nat} (h : i < l.length) : (l[i] :: l.eraseIdx i).Perm l := by
  rw [List.eraseIdx_eq_take_drop_succ]
  have e : l = l.take i ++ l[i] :: l.drop (i + 1) := by
    rw [← List.drop_eq_getElem_cons h, List.take_append_drop]
  exact (List.perm_middle.symm.trans (List.Perm.of_eq e.symm))

/-- the two drawn orders are orders -/
theorem pickOrder_go_perm {α : Type} (next : Nat → Nat) : ∀ (fuel k : Nat) (left : List α) (out : Array α), left.length ≤ fuel → (pickOrder.go next fuel k left out).toList.Perm (out.toList ++ left)
  | 0, _, left, out, h => by
    have : left = [] := List.eq_nil_of_length_eq_zero (by omega)
    subst this
    unfold pickOrder.go; simp
  | fuel + 1, k, left, out, h => by
    unfold pickOrder.go
    cases left with
    | nil => simp
    | cons a l =>
      have hl : next k % (a :: l).length < (a :: l).length := Nat.mod_lt _ (by simp)
      have e : (a :: l)[next k % (a :: l).length]? = some ((a :: l)[next k % (a :: l).length]) := List.getElem?_eq_getElem hl
      rw [e]
      dsimp only
      have ih := pickOrder_go_perm next fuel (k + 1) ((a :: l).eraseIdx (next k % (a :: l).length)) (out.push ((a :: l)[next k % (a :: l).length])) (by rw [List.length_eraseIdx_of_lt hl]; simp at h ⊢; omega)
      refine ih.trans ?_
      rw [Array.toList_push, List.append_assoc]
      exact List.Perm.append_left _ (erase_perm hl)
theorem pickOrder_perm {α : Type} (next : Nat → Nat) (xs : Array α) : (pickOrder next xs).toList.Perm xs.toList := by
  unfold pickOrder
  simpa using pickOrder_go_perm next xs.size 0 xs.toList #[] (by simp)
end Mine
end

/-! # MS2 -/
section
set_option autoImplicit false
namespace Mine
open PySem PyProof.Rows

def bt (w : World) : Bool := w.params.followText "set-order"

/-- the object at a is a set of just these ints -/
def SetI (prog : Program) (w : World) (h : Heap) (a : Addr) (S : List Int) : Prop :=
  ∃ o es ep t ms, h.get? a = some o ∧ o.ExactSet ∧ o.data = .set es ep t ∧ ElemsOf (intKind prog w) es.toList ∧ IntsAre (es.toList.map (·.2)) ms ∧ ms.Nodup ∧ (∀ k, k ∈ ms ↔ k ∈ S) ∧
    es.size < scanBound ∧ t.fits es.size = true ∧ TOk (bt w) t

theorem SetI.at {prog : Program} {w : World} {h h' : Heap} {a : Addr} {S : List Int} (x : SetI prog w h a S) (k : ∀ o, h.get? a = some o → h'.get? a = some o) : SetI prog w h' a S :=
  let ⟨o, es, ep, t, ms, e, r⟩ := x; ⟨o, es, ep, t, ms, k o e, r⟩

theorem nodup_len : ∀ {l m : List Int}, l.Nodup → (∀ x ∈ l, x ∈ m) → l.length ≤ m.length
  | [], _, _, _ => Nat.zero_le _
  | a :: l, m, hn, hs => by
    rw [List.nodup_cons] at hn
    have ha := hs a (.head _)
    have ih := nodup_len (l := l) (m := m.erase a) hn.2 fun x hx => (List.mem_erase_of_ne (show x ≠ a from fun e => hn.1 (e ▸ hx))).mpr (hs x (.tail _ hx))
    have h1 := List.length_erase_of_mem ha
    have h2 : 0 < m.length := List.length_pos_of_mem ha
    rw [List.length_cons]; omega

theorem ints_perm {vs vs' : List Value} {ns : List Int} (h : IntsAre vs ns) (p : vs'.Perm vs) : ∃ ns', IntsAre vs' ns' ∧ ns'.Perm ns := by
  refine ⟨vs'.map numOf, intsAre_map vs' fun v hv => h.all v (p.mem_iff.mp hv), ?_⟩
  rw [← h.nums]
  exact p.map numOf

theorem ints_find {prog : Program} {w : World} {k : Int} : ∀ {es : List (Int × Value)} {ms : List Int}, IntsAre (es.map (·.2)) ms → ((∃ e ∈ es, (intKind prog w).is k e.2 = true) ↔ k ∈ ms)
  | [], _, h => by cases h; simp
  | e :: es, _, h => by
    obtain ⟨eh, ev⟩ := e
    rw [List.map_cons] at h
    cases h with
    | cons n t hr =>
      have ih := @ints_find prog w k es _ hr
      simp only [List.mem_cons, exists_eq_or_imp, ih]
      have : (intKind prog w).is k (.int n t) = true ↔ k = n := by
        constructor
        · intro q
          have q' : Value.isInt k (.int n t) = true := q
          obtain ⟨u, e⟩ := Value.isInt_shape q'
          cases e; rfl
        · rintro rfl; exact intKind_is _ _ _ _
      rw [this]

section
variable {prog : Program} {w : World} {A : Around} {E : Value → Shared → Prop} {s : Shared}

theorem byText_at {Q : Bool → Shared → Prop} (h : Q (bt w) s) : wpAny (model prog w) A setsByText Q E s := by
  unfold setsByText
  exact wpAny_bind (wpAny_askSetting (wpAny_pure h))

theorem put_at {h : Heap} {a : Addr} {o : Obj} {es : Array (Int × Value)} {ep : Nat} {t : SetTable} (ho : h.get? a = some o) (hd : o.data = .set es ep t) (es' : Array (Int × Value)) (t' : SetTable) :
    (h.update a (Obj.putSet es' t')).get? a = some { o with data := .set es' (ep + 1) t' } := by
  have := Heap.get?_update_self (Obj.putSet es' t') ho (by rw [putSet_of es' t' hd]; rfl)
  rw [putSet_of es' t' hd] at this; exact this

theorem setAdd_at {a : Addr} {S : List Int} {k : Int} {tk : Tok} {Q : Bool → Shared → Prop} (hS : SetI prog w s.heap a S) (hroom : S.length + 1 < scanBound)
    (h : ∀ b h' tk', Heap.SameBut a s.heap h' → SetI prog w h' a (S ++ [k]) → Q b { s with heap := h', toks := tk' }) :
    wpAny (model prog w) A (setAdd a (.int k tk)) Q E s := by
  unfold setAdd
  refine wpAny_holding (wpAny_bind ((intKind prog w).pyHash (k := k) (intKind_is _ _ _ _) ?_))
  generalize hs' : ({ s with toks := s.toks + 1 } : Shared) = s'
  have hh : s'.heap = s.heap := by rw [← hs']
  have hend : ∀ b h', Heap.SameBut a s.heap h' → SetI prog w h' a (S ++ [k]) → Q b { s' with heap := h' } := fun b h' x y => by subst hs'; exact h b h' _ x y
  rw [← hh] at hS
  obtain ⟨o, es, ep, t, ms, ho, hex, hd, hel, hI, hnd, hmem, hb, hf, hok⟩ := hS
  have hlen : es.size = ms.length := by have := hI.length; simpa using this
  have hms : ms.length ≤ S.length := nodup_len hnd fun x hx => (hmem x).mp hx
  unfold setAddHashed setAddHashedIn
  refine wpAny_holding (wpAny_bind (wpAny_setState_of ho hd hf ?_))
  dsimp only
  rw [byScan_of (knd := intKind prog w) rfl hb hel]
  simp only [↓reduceIte]
  unfold setAddByScan
  refine wpAny_bind (wpAny_bind (wpAny_rule ?_))
  refine wpAny_bind (wpAny_setScan_of (knd := intKind prog w) (k := k) (intKind_is _ _ _ _) ho hd hf hel ?_)
  have hfind := ints_find (prog := prog) (w := w) (k := k) hI
  cases hr : List.findIdx? (fun e => (intKind prog w).is k e.2) es.toList with
  | some j =>
    dsimp only
    obtain ⟨hj, hpj, _⟩ := List.findIdx?_eq_some_iff_getElem.mp hr
    have hk : k ∈ ms := hfind.mp ⟨es.toList[j], List.getElem_mem hj, hpj⟩
    refine wpAny_pure (wpAny_pure ?_)
    have := hend false s'.heap (by rw [hh]; exact Heap.SameBut.refl a s.heap) ⟨o, es, ep, t, ms, ho, hex, hd, hel, hI, hnd, fun x => by
      rw [hmem, List.mem_append, List.mem_singleton]
      exact ⟨.inl, fun q => q.elim id fun q => q ▸ (hmem k).mp hk⟩, hb, hf, hok⟩
    exact this
  | none =>
    dsimp only
    have hk : k ∉ ms := fun hk => by
      obtain ⟨e, he, hp⟩ := hfind.mpr hk
      have := List.findIdx?_eq_none_iff.mp hr e he; rw [hp] at this; exact Bool.noConfusion this
    have hgw : ∀ (b : Bool) {s₁ : Shared} {Q' : Unit → Shared → Prop}, Q' () s₁ → wpAny (model prog w) A (match b with | true => rule "set.scan.the-table-gave-way" | false => pure ()) Q' E s₁ :=
      fun b s₁ Q' hq => by cases b <;> first | exact wpAny_pure hq | exact wpAny_rule hq
    have hperm := layNew_perm t es ((intKind prog w).hash k) (.int k tk)
    have hfits := layNew_fits t es ((intKind prog w).hash k) (.int k tk)
    have hok1 := layNew_ok (es := es) (h := (intKind prog w).hash k) (x := .int k tk) hok
    generalize layNew t es ((intKind prog w).hash k) (.int k tk) = L at hperm hfits hok1 ⊢
    obtain ⟨es1, t1, wasDummy, gave⟩ := L
    dsimp only at hperm hfits hok1 ⊢
    rw [Array.toList_push] at hperm
    have hel1 : ElemsOf (intKind prog w) es1.toList := (hel.push (intKind_is _ _ _ _) rfl).perm hperm
    have hsz1 : es1.size = es.size + 1 := by rw [← Array.length_toList, hperm.length_eq, List.length_append, Array.length_toList]; rfl
    have hb1 : es1.size < scanBound := by rw [hsz1]; omega
    obtain ⟨ms1, hI1, hp1⟩ : ∃ ms1, IntsAre (es1.toList.map (·.2)) ms1 ∧ ms1.Perm (ms ++ [k]) := by
      refine ints_perm (ns := ms ++ [k]) (vs := es.toList.map (·.2) ++ [.int k tk]) ?_ (by simpa using hperm.map (·.2))
      have : ∀ {vs : List Value} {ns : List Int}, IntsAre vs ns → IntsAre (vs ++ [.int k tk]) (ns ++ [k]) := by
        intro vs ns hq
        induction hq with
        | nil => exact .cons _ _ .nil
        | cons n t _ ih => exact .cons n t ih
      exact this hI
    have hnd1 : ms1.Nodup := hp1.nodup_iff.mpr (List.nodup_append.mpr ⟨hnd, by simp, fun x hx y hy e => by simp at hy; subst hy; subst e; exact hk hx⟩)
    have hmem1 : ∀ x, x ∈ ms1 ↔ x ∈ S ++ [k] := fun x => by rw [hp1.mem_iff, List.mem_append, List.mem_append, hmem]
    refine wpAny_bind (hgw _ ?_)
    have tail : ∀ t2 : SetTable, t2.fits es1.size = true → TOk (bt w) t2 →
        wpAny (model prog w) A (do
          storeSet a es1 t2
          if (!wasDummy && t2.tooFull) = true then do
              (match (relayAll t2 es1 (SetTable.grown es1.size)).2.2 with | true => rule "set.scan.the-table-gave-way" | false => pure ())
              storeSet a (relayAll t2 es1 (SetTable.grown es1.size)).1 (relayAll t2 es1 (SetTable.grown es1.size)).2.1
              pure (some true)
            else pure (some true)) (fun r s₁ => r = some true ∧ Q true s₁) E s' := by
      intro t2 hf2 hok2
      refine wpAny_bind (wpAny_storeSet_of ho hd ?_ (fits_of_scanBound hb1))
      have ho1 := put_at ho hd es1 t2
      have hsb1 := Heap.SameBut.update s'.heap a (Obj.putSet es1 t2)
      split
      · have hp := relayAll_perm t2 es1 (SetTable.grown es1.size)
        have hfr := relayAll_fits t2 es1 (SetTable.grown es1.size)
        have hokr := relayAll_ok (es := es1) (n := SetTable.grown es1.size) hok2
        generalize relayAll t2 es1 (SetTable.grown es1.size) = Rl at hp hfr hokr ⊢
        obtain ⟨es2, t3, gave2⟩ := Rl
        dsimp only at hp hfr hokr ⊢
        have hsz2 : es2.size = es1.size := by rw [← Array.length_toList, hp.length_eq, Array.length_toList]
        obtain ⟨ms2, hI2, hp2⟩ := ints_perm hI1 (hp.map (·.2))
        refine wpAny_bind (hgw _ ?_)
        refine wpAny_bind (wpAny_storeSet_of ho1 rfl ?_ (fits_of_scanBound (by rw [hsz2]; exact hb1)))
        refine wpAny_pure ⟨rfl, hend true _ (by rw [← hh]; exact hsb1.trans (Heap.SameBut.update _ a _)) ⟨_, es2, _, t3, ms2, put_at ho1 rfl es2 t3, hex, rfl, hel1.perm hp, hI2, hp2.nodup_iff.mpr hnd1, fun x => by rw [hp2.mem_iff, hmem1], by rw [hsz2]; exact hb1, hfr, hokr⟩⟩
      · exact wpAny_pure ⟨rfl, hend true _ (by rw [← hh]; exact hsb1) ⟨_, es1, _, t2, ms1, ho1, hex, rfl, hel1, hI1, hnd1, hmem1, hb1, hf2, hok2⟩⟩
    have fin : ∀ t2 : SetTable, t2.fits es1.size = true → TOk (bt w) t2 → _ := fun t2 a1 a2 => wpAny_mono (tail t2 a1 a2) (Q' := fun r s₁ => wpAny (model prog w) A (match r with | some added => pure added | none => setAddHashedIn a (.int k tk) ((intKind prog w).hash k) 99999) Q E s₁) (fun r s₁ q => by
      obtain ⟨rfl, q⟩ := q
      exact wpAny_pure q) fun _ _ e => e
    split
    · refine wpAny_bind ?_
      rw [hashByValue_scannable 8 rfl]
      refine wpAny_pure ?_
      simp only [plainKind, ↓reduceIte]
      exact fin t1 hfits hok1
    · refine wpAny_bind (wpAny_pure ?_)
      simp only [↓reduceIte]
      exact fin t1 hfits hok1
end
end Mine
end

/-! # MS3 -/
section
set_option autoImplicit false
set_option maxRecDepth 100000
namespace Mine
open PySem PyProof.Rows

section
variable {prog : Program} {w : World} {A : Around} {R : Result → Shared → Prop} {I : Addr} {fp wr : List Addr} {n : Nat} {P : Nat → Value → Prop} {St : Nat → Heap → Prop}

theorem update_loop (W : Walks prog w A.in1 I fp wr n P St) (S : Addr) (hSf : S ∉ fp) (val : Nat → Int) (hval : ∀ i v, P i v → ∃ t, v = .int (val i) t) (hb : n + 1 < scanBound) :
    ∀ (k i : Nat) (s : Shared), n - i = k → i ≤ n → St i s.heap → SetI prog w s.heap S ((List.range i).map val) →
      (∀ h' tk, (∀ b o, b ∉ S :: wr → s.heap.get? b = some o → h'.get? b = some o) → SetI prog w h' S ((List.range n).map val) → R (.ok (.ret .none)) { s with heap := h', toks := tk }) →
      codeAny (model prog w) A (.builtin "set.update.loop" ⟨[.ref S, .ref I], []⟩) R s := by
  have hSw : S ∉ wr := fun h => hSf (W.sub _ h)
  intro k
  induction k with
  | zero =>
    intro i s hk hi hst hS hR
    have hin : i = n := by omega
    subst hin
    refine codeAny_builtin PyProof.Rows.F.entry_set_update_loop ?_
    rw [Around.under_plainId PyProof.Rows.F.plain_set_update_loop _]
    show wpAny _ A.in1 (pyNext (.ref I) >>= _) _ _ s
    refine wpAny_bind (W.done s _ _ hst fun h' tk hm => ?_)
    show wpAny _ A.in1 (ret Value.none) _ _ _
    exact wpAny_pure (hR h' tk (fun b o hb e => hm b o (fun q => hb (List.mem_cons_of_mem _ q)) e) (hS.at fun o e => hm S o hSw e))
  | succ k ih =>
    intro i s hk hi hst hS hR
    have hlt : i < n := by omega
    refine codeAny_builtin PyProof.Rows.F.entry_set_update_loop ?_
    rw [Around.under_plainId PyProof.Rows.F.plain_set_update_loop _]
    show wpAny _ A.in1 (pyNext (.ref I) >>= _) _ _ s
    refine wpAny_bind (W.item i s _ _ hlt hst fun v h₁ tk₁ hP hst' hm => ?_)
    obtain ⟨t, rfl⟩ := hval i v hP
    show wpAny _ A.in1 (holding [Value.int (val i) t] (setAdd S (.int (val i) t)) >>= _) _ _ _
    refine wpAny_bind (wpAny_holding (setAdd_at (S := (List.range i).map val) (hS.at fun o e => hm S o hSw e) (by simp; omega) fun b h₂ tk₂ hsb hS2 => ?_))
    refine wpAny_pure ⟨plainId_quiet PyProof.Rows.F.plain_set_update_loop _, ih (i + 1) _ (by omega) hlt (W.frame _ _ _ hst' fun b hb o e => ?_) ?_ fun h₃ tk₃ hm₃ hS₃ => ?_⟩
    · exact hsb.extBut b o (fun q => hSf (q ▸ hb)) e
    · rw [List.range_succ, List.map_append]; exact hS2
    · refine hR h₃ tk₃ (fun b o hb e => hm₃ b o hb (hsb.extBut b o (fun q => hb (q ▸ List.mem_cons_self)) (hm b o (fun q => hb (List.mem_cons_of_mem _ q)) e))) hS₃
end

section
variable {prog : Program} {w : World} {A : Around} {E : Value → Shared → Prop} {s : Shared}

theorem set_new_led (a : Value) {Q₁ : Value → Shared → Prop}
    (h : Q₁ (.ref s.heap.objs.size) { s with heap := s.heap.push { cls := .type "set", dict := none, data := .set #[] 0 (.fresh 0 0 (!bt w)) } }) :
    codeAny (model prog w) A (.call (.builtin "set.__new__") ⟨[.type "set", a], []⟩) (wants Q₁ E) s := by
  refine codeAny_of_tree ?_
  show wpAny _ A.in1 (do checkBuiltinCall "set.__new__" ⟨[.type "set", a], []⟩; again (.builtin "set.__new__" ⟨[.type "set", a], []⟩)) _ _ s
  refine wpAny_bind (wpAny_of_eq (F.newCall_set_1 a) (wpAny_pure ⟨plainId_quiet F.plain_set_new _, codeAny_builtin F.entry_set_new ?_⟩))
  rw [Around.under_plainId F.plain_set_new _]
  unfold Builtin.«set.__new__» Builtin.Frozenset.newClass
  have hsub := sub_set_self
  obtain ⟨hp, g, d, tk, os⟩ := s
  dsimp only
  wp_walk
  refine wpAny_askSetting (wpAny_pure ?_)
  dsimp only
  simp only [newObj]
  refine wpAny_bind (wpAny_alloc (wpAny_pure ?_))
  exact wpAny_pure h

theorem setI_fresh (h : Heap) : SetI prog w (h.push { cls := .type "set", dict := none, data := .set #[] 0 (.fresh 0 0 (!bt w)) }) h.objs.size [] := by
  refine ⟨_, #[], 0, _, [], Heap.get?_push_size _ rfl, ⟨rfl, rfl, rfl⟩, rfl, fun e he => by simp at he, .nil, List.nodup_nil, fun k => Iff.rfl, by unfold scanBound; simp, rfl, ?_⟩
  refine ⟨?_, rfl, ?_⟩
  · unfold Rise SetTable.fresh; simp
  · unfold SetTable.fresh; dsimp only; cases bt w <;> simp

set_option maxHeartbeats 3200000 in
theorem call_setI {l : Addr} {items : Array Value} {ns : List Int} {Q : Value → Shared → Prop}
    (hh : A.handled = none) (hl : s.heap.IsList l items) (hi : IntsAre items.toList ns) (hb : items.size + 1 < scanBound)
    (h : ∀ (h' : Heap) (tk : Nat) (a : Addr), s.heap.get? a = none → SetI prog w h' a ns → (∀ b o, s.heap.get? b = some o → h'.get? b = some o) → Q (.ref a) { s with heap := h', toks := tk }) :
    wpAny (model prog w) A (call (.type "set") [.ref l]) Q E s := by
  have hnew : s.heap.get? s.heap.objs.size = none := by
    cases e : s.heap.get? s.heap.objs.size with
    | none => rfl
    | some o => exact absurd (Heap.lt_size e) (Nat.lt_irrefl _)
  obtain ⟨c, tl, hmro⟩ := F.called_set.mro
  have hmade := F.called_set.made
  have hsub := F.called_set.sub
  refine wpAny_call (codeAny_of_tree ?_)
  show wpAny _ _ (callAny (.type "set") _) _ _ _
  refine wpAny_pure ⟨Code.quiet_builtin _ (by decide +kernel), codeAny_builtin F.entry_type_call ?_⟩
  rw [Around.under_plain (weight_type_call_type "set" [.ref l] []) rfl]
  have h1 := F.called_set.notType
  have h2 := F.called_set.canCreate
  have hct := F.typeCall_set_1 (.ref l)
  repeat (any_goals (first | assumption | wp_step))
  refine codeAny_mono (set_new_led (.ref l) (E := E) (Q₁ := fun obj s₁ => obj = .ref s.heap.objs.size ∧ s₁ = { s with heap := s.heap.push { cls := .type "set", dict := none, data := .set #[] 0 (.fresh 0 0 (!bt w)) } }) ⟨rfl, rfl⟩) fun r s₁ hr => ?_
  cases r with
  | error e => exact hr
  | ok fl =>
    cases fl with
    | ret obj =>
      obtain ⟨rfl, rfl⟩ := hr
      have hS : (s.heap.push { cls := .type "set", dict := none, data := .set #[] 0 (.fresh 0 0 (!bt w)) }).get? s.heap.objs.size = some { cls := .type "set", dict := none, data := .set #[] 0 (.fresh 0 0 (!bt w)) } := Heap.get?_push_size _ rfl
      have hS0 := setI_fresh (prog := prog) (w := w) s.heap
      generalize hH : s.heap.push { cls := .type "set", dict := none, data := .set #[] 0 (.fresh 0 0 (!bt w)) } = H at hS hS0 ⊢
      have hHs : H.objs.size = s.heap.objs.size + 1 := by rw [← hH, Heap.size_push]
      have hT : Shared.TypeIs { s with heap := H } (.ref s.heap.objs.size) "set" := ⟨_, hS, rfl⟩
      have hli := F.called_set.init.lookup
      have hbi := F.called_set.init.bind (.ref s.heap.objs.size)
      repeat (any_goals (first | assumption | wp_step))
      refine codeAny_mono (codeAny_call_builtin (R := wants (fun r s₂ => r = .none ∧ ∃ h' tk, s₂ = { s with heap := h', toks := tk } ∧
          SetI prog w h' s.heap.objs.size ns ∧ (∀ b o, s.heap.get? b = some o → h'.get? b = some o)) E) F.called_set.init.plain F.entry_set_init (check_set_init_1 hT ?_)) fun r₂ s₂ hr₂ => ?_
      · obtain ⟨ol, hol, hcl, nl, hdl⟩ := hl
        obtain ⟨ocls, odict, odata, oslots⟩ := ol
        simp only at hcl hdl
        subst hcl; subst hdl
        have hk : ∀ b o, s.heap.get? b = some o → H.get? b = some o := fun b o e => hH ▸ Heap.get?_push_of_some _ e
        have hol' : H.get? l = some { cls := .type "list", dict := odict, data := .seq items nl, slots := oslots } := hk _ _ hol
        have hsls := F.sub_list_set
        have hslf := F.sub_list_frozenset
        have hne : (Value.type "list" == Value.type "dict") = false := by decide
        have hl1 : H.IsList l items := ⟨_, hol', rfl, nl, rfl⟩
        unfold Builtin.«set.__init__» noKeywords Builtin.Frozenset.updateFrom
        generalize hPI : pyIter = PI
        wp_walk
        subst hPI
        refine wpAny_pyIter_list hl1 ?_
        refine wpAny_bind (wpAny_runValue ?_)
        have hlS : l < s.heap.objs.size := Heap.lt_size hol
        have hh3 : A.in1.in1.in1.handled = none := by simp [hh]
        have hneI : l ≠ H.objs.size := by rw [hHs]; exact Nat.ne_of_lt (Nat.lt_succ_of_lt hlS)
        have hSf : s.heap.objs.size ∉ [H.objs.size, l] := by
          rw [hHs]; simp only [List.mem_cons, List.not_mem_nil, or_false, not_or]
          exact ⟨Nat.ne_of_lt (Nat.lt_succ_self _), Nat.ne_of_gt hlS⟩
        have hval : ∀ (i : Nat) (v : Value), items[i]? = some v → ∃ t, v = .int ((fun i => ns.getD i 0) i) t := fun i v hv =>
          IntsAre.int_at hi i v (by rw [Array.getElem?_toList]; exact hv)
        have hns : ((List.range items.size).map fun i => ns.getD i 0) = ns := by
          have hlen : items.size = ns.length := by have := hi.length; simpa using this
          rw [hlen]
          refine List.ext_getElem (by simp) fun i h1 h2 => ?_
          simp at h1
          simp [h1]
        refine update_loop (Walks.list hh3 _ l hneI items) s.heap.objs.size hSf (fun i => ns.getD i 0) hval hb (items.size - 0) 0 _ (by omega) (Nat.zero_le _)
          ⟨⟨_, Heap.get?_push_size _ rfl, rfl, rfl⟩, (hl1.push _)⟩ (hS0.at fun o e => Heap.get?_push_of_some _ e) fun h' tk' hm hS' => ?_
        rw [hns] at hS'
        show wpAny _ _ _ _ _ _
        refine wpAny_pure ?_
        show wpAny _ _ (ret Value.none) _ _ _
        refine wpAny_pure ⟨rfl, h', tk', rfl, hS', fun b o e => hm b o ?_ (Heap.get?_push_of_some _ (hk b o e))⟩
        have hb1 : b < s.heap.objs.size := Heap.lt_size e
        rw [hHs]
        simp only [List.mem_cons, List.not_mem_nil, or_false, not_or]
        exact ⟨Nat.ne_of_lt hb1, Nat.ne_of_lt (Nat.lt_succ_of_lt hb1)⟩
      · cases r₂ with
        | error e => exact hr₂
        | ok fl₂ =>
          cases fl₂ with
          | ret r =>
            obtain ⟨rfl, h', tk, rfl, hS', hk'⟩ := hr₂
            repeat (any_goals (first | assumption | wp_step))
            exact h _ _ _ hnew hS' hk'
          | _ => exact hr₂.elim
    | _ => exact hr.elim
end
end Mine
end

/-! # MS4 -/
section
set_option autoImplicit false
set_option maxRecDepth 100000
namespace Mine
open PySem PyProof.Rows

theorem slot_setiter_next : Slot "set_iterator" "__next__" "set_iterator.__next__" :=
  .of (owner := "set_iterator") (n := "__next__") (by rw [typeLookup_type, builtinLookup_eq_fast]; kernel_rfl) (by decide +kernel) (by decide +kernel) (by decide +kernel)
    (by first | exact .inl (by decide +kernel) | exact .inr (by decide +kernel)) (by rw [isSubtype_type]; kernel_rfl)
theorem slot_setiter_iter : Slot "set_iterator" "__iter__" "set_iterator.__iter__" :=
  .of (owner := "set_iterator") (n := "__iter__") (by rw [typeLookup_type, builtinLookup_eq_fast]; kernel_rfl) (by decide +kernel) (by decide +kernel) (by decide +kernel)
    (by first | exact .inl (by decide +kernel) | exact .inr (by decide +kernel)) (by rw [isSubtype_type]; kernel_rfl)
theorem entry_setiter_next : entryFor table "set_iterator.__next__" = some Builtin.«set_iterator.__next__» := entryFor_of_tree (by kernel_rfl)
theorem args_setiter_next (a : Value) : argsOk "set_iterator.__next__" ⟨[a], []⟩ := by unfold argsOk; kernel_rfl
theorem entry_set_iter : entryFor table "set.__iter__" = some Builtin.«frozenset.__iter__» :=
  entryFor_alias (id' := "frozenset.__iter__") (by kernel_rfl) rfl (by decide +kernel) (by kernel_rfl)

abbrev setIt (first : Value) (i : Int) (s : Value) (n ep : Int) : Obj := { cls := .type "set_iterator", data := .fields #[first, rawInt i, s, rawInt n, rawInt ep] }

/-- a set that stays as it is -/
structure Held (w : World) (h : Heap) (a : Addr) (o : Obj) (es : Array (Int × Value)) (ep : Nat) (t : SetTable) : Prop where
  at_ : h.get? a = some o
  exact_ : o.ExactSet
  data : o.data = .set es ep t
  fits : t.fits es.size = true
  ok : TOk (bt w) t

section
variable {prog : Program} {w : World} {A : Around} {E : Value → Shared → Prop} {s : Shared}

/-- the end of a set's walk -/
theorem setNext_stop {I : Addr} {fs : Array Value} {Q : Option Value → Shared → Prop} (hh : A.handled = none) (hI : s.heap.get? I = some { cls := .type "set_iterator", data := .fields fs }) (hk : 2 < fs.size)
    (hbody : ∀ (E' : Value → Shared → Prop) (Q' : PySem.Fin → Shared → Prop), wpAny (model prog w) A.in1 (do setField (.ref I) 2 .none; raiseNew (← newExc (.type "StopIteration") [])) Q' E' s → wpAny (model prog w) A.in1 (Builtin.«set_iterator.__next__» ⟨[.ref I], []⟩) Q' E' s)
    (hQ : ∀ h', Heap.ExtBut I s.heap h' → Q none { s with heap := h' }) : wpAny (model prog w) A (pyNext (.ref I)) Q E s := by
  have hT : s.TypeIs (.ref I) "set_iterator" := ⟨_, hI, rfl⟩
  unfold pyNext
  refine wpAny_bind (wpAny_attempt (wpAny_callSpecial?_slot (name := Str.ofString "__next__") hT slot_setiter_next (wpAny_call_entry slot_setiter_next hT entry_setiter_next (hbody _ _ ?_) (args_setiter_next _))))
  refine wpAny_bind (wpAny_setField hI rfl hk ?_)
  show wpAny _ _ (newExc (.type "StopIteration") [] >>= _) _ _ _
  refine wpAny_bind ?_
  simp only [newExc, newTuple]
  refine wpAny_bind (wpAny_newObj_type ?_ (by size_fits))
  refine wpAny_bind (m := firstArgMember _ _) (wpAny_of_eq (a := Value.none) (by first | rfl | (simp only [firstArgMember]; rfl)) ?_)
  refine wpAny_newObj_type ?_ (by size_fits)
  simp only [raiseNew]
  refine wpAny_bind (wpAny_handled ?_)
  rw [show A.in1.handled = none from hh]
  refine wpAny_bind (wpAny_pure (wpAny_throw ?_))
  refine wpAny_bind (wpAny_isInstance (T := "StopIteration") (b := true) ⟨_, Heap.get?_push_size _ rfl, rfl⟩ isSubtype_stop ?_)
  exact wpAny_pure (hQ _ (((Heap.SameBut.update ..).extBut.push _).push _))

theorem rawInt_nat (n : Nat) : rawInt (n : Int) = .int (n : Int) 0 := rfl

/-- one step by the slots -/
theorem next_slot {I a : Addr} {o : Obj} {es : Array (Int × Value)} {ep : Nat} {t : SetTable} {slot i next : Nat} {x : Value} {Q : Option Value → Shared → Prop} (H : Held w s.heap a o es ep t)
    (hI : s.heap.get? I = some (setIt (rawInt slot) i (.ref a) es.size ep))
    (hn : ∀ (Q' : Option (Value × Nat) → Shared → Prop) (E' : Value → Shared → Prop), Q' (some (x, next)) s → wpAny (model prog w) A.in1 (setNext a slot i ep) Q' E' s)
    (hQ : ∀ h', h'.get? I = some (setIt (rawInt next) (i + 1 : Nat) (.ref a) es.size ep) → Heap.SameBut I s.heap h' → Q (some x) { s with heap := h' }) : wpAny (model prog w) A (pyNext (.ref I)) Q E s := by
  have hT : s.TypeIs (.ref I) "set_iterator" := ⟨_, hI, rfl⟩
  unfold pyNext
  refine wpAny_bind (wpAny_attempt (wpAny_callSpecial?_slot (name := Str.ofString "__next__") hT slot_setiter_next (wpAny_call_entry slot_setiter_next hT entry_setiter_next ?_ (args_setiter_next _))))
  unfold Builtin.«set_iterator.__next__»
  refine wpAny_bind (m := slotArgs "__next__" 0 _) (wpAny_pure ?_)
  refine wpAny_bind (wpAny_fieldsOf hI rfl ?_)
  show wpAny _ _ (setEntries a >>= _) _ _ s
  refine wpAny_bind (wpAny_setEntries_of H.at_ H.data H.fits ?_)
  show wpAny _ _ (if ((es.size : Int) != (es.size : Int)) = true then _ else _) _ _ s
  rw [if_neg (by simp)]
  show wpAny _ _ (setNext a (slot : Int).toNat (i : Int).toNat (ep : Int).toNat >>= _) _ _ s
  simp only [Int.toNat_natCast]
  refine wpAny_bind (hn _ _ ?_)
  refine wpAny_bind (wpAny_setField hI rfl (by simp) ?_)
  have h1 := Heap.get?_update_self (Obj.mapFields (·.setIfInBounds 0 (rawInt next))) hI rfl
  refine wpAny_bind (wpAny_setField h1 rfl (by simp [Obj.mapFields]) ?_)
  have h2 := Heap.get?_update_self (Obj.mapFields (·.setIfInBounds 1 (rawInt ((i : Int) + 1)))) h1 rfl
  exact wpAny_pure ⟨x, rfl, wpAny_pure (hQ _ (by rw [h2]; simp [Obj.mapFields, setIt]) ((Heap.SameBut.update ..).trans (Heap.SameBut.update ..)))⟩

theorem stop_slot {I a : Addr} {o : Obj} {es : Array (Int × Value)} {ep : Nat} {t : SetTable} {slot i : Nat} {Q : Option Value → Shared → Prop} (hh : A.handled = none) (H : Held w s.heap a o es ep t)
    (hI : s.heap.get? I = some (setIt (rawInt slot) i (.ref a) es.size ep))
    (hn : ∀ (Q' : Option (Value × Nat) → Shared → Prop) (E' : Value → Shared → Prop), Q' none s → wpAny (model prog w) A.in1 (setNext a slot i ep) Q' E' s)
    (hQ : ∀ h', Heap.ExtBut I s.heap h' → Q none { s with heap := h' }) : wpAny (model prog w) A (pyNext (.ref I)) Q E s := by
  refine setNext_stop hh hI (by simp) (fun E' Q' hq => ?_) hQ
  unfold Builtin.«set_iterator.__next__»
  refine wpAny_bind (m := slotArgs "__next__" 0 _) (wpAny_pure ?_)
  refine wpAny_bind (wpAny_fieldsOf hI rfl ?_)
  show wpAny _ _ (setEntries a >>= _) _ _ s
  refine wpAny_bind (wpAny_setEntries_of H.at_ H.data H.fits ?_)
  show wpAny _ _ (if ((es.size : Int) != (es.size : Int)) = true then _ else _) _ _ s
  rw [if_neg (by simp)]
  show wpAny _ _ (setNext a (slot : Int).toNat (i : Int).toNat (ep : Int).toNat >>= _) _ _ s
  simp only [Int.toNat_natCast]
  refine wpAny_bind (hn _ _ ?_)
  exact hq

/-- one step by a drawn order -/
theorem next_drawn {I a T : Addr} {oT o : Obj} {es : Array (Int × Value)} {ep nT : Nat} {t : SetTable} {i p : Nat} {ps : Array Value} {x : Int × Value} {Q : Option Value → Shared → Prop} (H : Held w s.heap a o es ep t)
    (hI : s.heap.get? I = some (setIt (.ref T) i (.ref a) es.size ep)) (hT' : s.heap.get? T = some oT) (hTd : oT.data = .seq ps nT) (hp : ps[i]? = some (rawInt p)) (hx : es[p]? = some x)
    (hQ : ∀ h', h'.get? I = some (setIt (.ref T) (i + 1 : Nat) (.ref a) es.size ep) → Heap.SameBut I s.heap h' → Q (some x.2) { s with heap := h' }) : wpAny (model prog w) A (pyNext (.ref I)) Q E s := by
  have hT : s.TypeIs (.ref I) "set_iterator" := ⟨_, hI, rfl⟩
  unfold pyNext
  refine wpAny_bind (wpAny_attempt (wpAny_callSpecial?_slot (name := Str.ofString "__next__") hT slot_setiter_next (wpAny_call_entry slot_setiter_next hT entry_setiter_next ?_ (args_setiter_next _))))
  unfold Builtin.«set_iterator.__next__»
  refine wpAny_bind (m := slotArgs "__next__" 0 _) (wpAny_pure ?_)
  refine wpAny_bind (wpAny_fieldsOf hI rfl ?_)
  show wpAny _ _ (setEntries a >>= _) _ _ s
  refine wpAny_bind (wpAny_setEntries_of H.at_ H.data H.fits ?_)
  show wpAny _ _ (if ((es.size : Int) != (es.size : Int)) = true then _ else _) _ _ s
  rw [if_neg (by simp)]
  show wpAny _ _ (seqItems? (.ref T) >>= _) _ _ s
  refine wpAny_bind (wpAny_seqItems hT' hTd ?_)
  dsimp only
  rw [show ps[(i : Int).toNat]? = some (rawInt p) from by simpa using hp]
  show wpAny _ _ (setNextDrawn a (p : Int).toNat (ep : Int).toNat >>= _) _ _ s
  simp only [Int.toNat_natCast]
  unfold setNextDrawn
  refine wpAny_bind (wpAny_bind (wpAny_setState_of H.at_ H.data H.fits ?_))
  dsimp only
  rw [if_neg (by simp), hx]
  refine wpAny_pure ?_
  refine wpAny_bind (wpAny_setField hI rfl (by simp) ?_)
  have h2 := Heap.get?_update_self (Obj.mapFields (·.setIfInBounds 1 (rawInt ((i : Int) + 1)))) hI rfl
  exact wpAny_pure ⟨x.2, rfl, wpAny_pure (hQ _ (by rw [h2]; simp [Obj.mapFields, setIt]) (Heap.SameBut.update ..))⟩

theorem stop_drawn {I a T : Addr} {oT o : Obj} {es : Array (Int × Value)} {ep nT : Nat} {t : SetTable} {i : Nat} {ps : Array Value} {Q : Option Value → Shared → Prop} (hh : A.handled = none) (H : Held w s.heap a o es ep t)
    (hI : s.heap.get? I = some (setIt (.ref T) i (.ref a) es.size ep)) (hT' : s.heap.get? T = some oT) (hTd : oT.data = .seq ps nT) (hp : ps[i]? = none)
    (hQ : ∀ h', Heap.ExtBut I s.heap h' → Q none { s with heap := h' }) : wpAny (model prog w) A (pyNext (.ref I)) Q E s := by
  have hT : s.TypeIs (.ref I) "set_iterator" := ⟨_, hI, rfl⟩
  unfold pyNext
  refine wpAny_bind (wpAny_attempt (wpAny_callSpecial?_slot (name := Str.ofString "__next__") hT slot_setiter_next (wpAny_call_entry slot_setiter_next hT entry_setiter_next ?_ (args_setiter_next _))))
  unfold Builtin.«set_iterator.__next__»
  refine wpAny_bind (m := slotArgs "__next__" 0 _) (wpAny_pure ?_)
  refine wpAny_bind (wpAny_fieldsOf hI rfl ?_)
  show wpAny _ _ (setEntries a >>= _) _ _ s
  refine wpAny_bind (wpAny_setEntries_of H.at_ H.data H.fits ?_)
  show wpAny _ _ (if ((es.size : Int) != (es.size : Int)) = true then _ else _) _ _ s
  rw [if_neg (by simp)]
  show wpAny _ _ (seqItems? (.ref T) >>= _) _ _ s
  refine wpAny_bind (wpAny_seqItems hT' hTd ?_)
  dsimp only
  rw [show ps[(i : Int).toNat]? = none from by simpa using hp]
  dsimp only
  refine wpAny_bind (wpAny_setField hI rfl (by simp) ?_)
  have h1 := Heap.get?_update_self (Obj.mapFields (·.setIfInBounds 0 (rawInt 0))) hI rfl
  refine wpAny_bind (wpAny_setField h1 rfl (by simp [Obj.mapFields]) ?_)
  show wpAny _ _ (newExc (.type "StopIteration") [] >>= _) _ _ _
  refine wpAny_bind ?_
  simp only [newExc, newTuple]
  refine wpAny_bind (wpAny_newObj_type ?_ (by size_fits))
  refine wpAny_bind (m := firstArgMember _ _) (wpAny_of_eq (a := Value.none) (by first | rfl | (simp only [firstArgMember]; rfl)) ?_)
  refine wpAny_newObj_type ?_ (by size_fits)
  simp only [raiseNew]
  refine wpAny_bind (wpAny_handled ?_)
  rw [show A.in1.handled = none from hh]
  refine wpAny_bind (wpAny_pure (wpAny_throw ?_))
  refine wpAny_bind (wpAny_isInstance (T := "StopIteration") (b := true) ⟨_, Heap.get?_push_size _ rfl, rfl⟩ isSubtype_stop ?_)
  exact wpAny_pure (hQ _ ((((Heap.SameBut.update ..).trans (Heap.SameBut.update ..)).extBut.push _).push _))
end
end Mine
end

/-! # MS5 -/
section
set_option autoImplicit false
set_option maxRecDepth 100000
namespace Mine
open PySem PyProof.Rows

theorem entry_setiter_iter : entryFor table "set_iterator.__iter__" = some Builtin.«dict_keyiterator.__iter__» :=
  entryFor_alias (id' := "dict_keyiterator.__iter__") (by kernel_rfl) rfl (by decide +kernel) (by kernel_rfl)
theorem args_setiter_iter (a : Value) : argsOk "set_iterator.__iter__" ⟨[a], []⟩ := by unfold argsOk; kernel_rfl

section
variable {prog : Program} {w : World} {A : Around} {E : Value → Shared → Prop} {s : Shared}

theorem iter_self {I : Addr} {fs : Array Value} {Q : Value → Shared → Prop} (hI : s.heap.get? I = some { cls := .type "set_iterator", data := .fields fs }) (hQ : Q (.ref I) s) : wpAny (model prog w) A (pyIter (.ref I)) Q E s := by
  have hT : s.TypeIs (.ref I) "set_iterator" := ⟨_, hI, rfl⟩
  refine wpAny_pyIter_slot hT slot_setiter_iter (wpAny_call_entry slot_setiter_iter hT entry_setiter_iter ?_ (args_setiter_iter _))
  show wpAny _ _ (ret (.ref I)) _ _ s
  exact wpAny_pure ⟨_, rfl, "set_iterator", _, hT, slot_setiter_next.lookup, hQ⟩

theorem choose_at {src : Source} {n : Nat} {Q : Nat → Shared → Prop} (hn : n ≠ 0) (h : Q (w.draws src (s.drawn.get src) % n) { s with drawn := s.drawn.bump src }) : wpAny (model prog w) A (choose src n) Q E s :=
  fun _ _ _ => ⟨hn, h⟩

theorem drawOrder_at {α : Type} : ∀ (n : Nat) (xs : List α) (s : Shared) {Q : List α → Shared → Prop}, xs.length = n → (∀ l dr, l.Perm xs → Q l { s with drawn := dr }) → wpAny (model prog w) A (drawOrder n xs) Q E s
  | 0, xs, s, Q, hn, h => by
    have : xs = [] := List.eq_nil_of_length_eq_zero hn
    subst this
    unfold drawOrder
    exact wpAny_pure (h [] s.drawn .nil)
  | n + 1, [], s, Q, hn, h => by cases hn
  | n + 1, x :: xs, s, Q, hn, h => by
    unfold drawOrder
    refine wpAny_bind (choose_at (by simp) ?_)
    generalize hi : w.draws .order (s.drawn.get .order) % (x :: xs).length = i
    have hlt : i < (x :: xs).length := hi ▸ Nat.mod_lt _ (by simp)
    have e : (x :: xs)[i]? = some ((x :: xs)[i]) := List.getElem?_eq_getElem hlt
    rw [e]
    dsimp only
    refine wpAny_bind (drawOrder_at n _ _ (by rw [List.length_eraseIdx_of_lt hlt]; simp at hn ⊢; omega) fun l dr hl => wpAny_pure ?_)
    exact h _ dr ((hl.cons _).trans (erase_perm hlt))

theorem setNext_text {a : Addr} {o : Obj} {es : Array (Int × Value)} {ep slot i : Nat} {t : SetTable} {Q : Option (Value × Nat) → Shared → Prop} (H : Held w s.heap a o es ep t) (hb : bt w = true)
    (h : Q (((pickOrder (w.params.setOrder a ep) es)[i]?).map fun e => (e.2, slot)) s) : wpAny (model prog w) A (setNext a slot i ep) Q E s := by
  unfold setNext
  refine wpAny_bind (wpAny_setState_of H.at_ H.data H.fits ?_)
  dsimp only
  refine wpAny_bind (byText_at ?_)
  rw [hb]
  simp only [if_true]
  rw [if_neg (by simp)]
  refine wpAny_bind ?_
  unfold setWalk
  refine wpAny_bind (wpAny_setState_of H.at_ H.data H.fits ?_)
  dsimp only
  refine wpAny_bind (byText_at ?_)
  rw [hb]
  simp only [if_true]
  exact wpAny_bind (wpAny_askSetting (wpAny_pure (wpAny_pure h)))

theorem setNext_slots {a : Addr} {o : Obj} {es : Array (Int × Value)} {ep slot i : Nat} {t : SetTable} {Q : Option (Value × Nat) → Shared → Prop} (H : Held w s.heap a o es ep t) (hb : bt w = false) (hd : (!t.plain && decide (es.size > 1)) = false)
    (h : Q (match es[SetTable.below t.place slot]?, t.place[SetTable.below t.place slot]? with | some (_, x), some j => some (x, j + 1) | _, _ => none) s) : wpAny (model prog w) A (setNext a slot i ep) Q E s := by
  unfold setNext
  refine wpAny_bind (wpAny_setState_of H.at_ H.data H.fits ?_)
  dsimp only
  refine wpAny_bind (byText_at ?_)
  rw [hb]
  simp only [Bool.false_eq_true, if_false]
  have hled : t.led = true := H.ok.led.resolve_right (by rw [hb]; decide)
  show wpAny _ _ (if (!t.plain && decide (es.size > 1)) = true then _ else _) _ _ s
  rw [hd]
  simp only [Bool.false_eq_true, if_false]
  refine wpAny_bind ?_
  show wpAny _ _ (if (!t.led && !es.isEmpty) = true then _ else _) _ _ s
  rw [hled]
  simp only [Bool.not_true, Bool.false_and, Bool.false_eq_true, if_false]
  exact wpAny_pure (wpAny_pure h)
end

/-! ## the three walks -/
theorem Held.at' {w : World} {h h' : Heap} {a : Addr} {o : Obj} {es : Array (Int × Value)} {ep : Nat} {t : SetTable} (H : Held w h a o es ep t) (k : ∀ o, h.get? a = some o → h'.get? a = some o) : Held w h' a o es ep t :=
  ⟨k o H.at_, H.exact_, H.data, H.fits, H.ok⟩

section
variable {prog : Program} {w : World} {A : Around}

theorem walks_text (hh : A.handled = none) (I a : Addr) (hne : a ≠ I) (o : Obj) (es : Array (Int × Value)) (ep : Nat) (t : SetTable) (hb : bt w = true) :
    Walks prog w A I [I, a] [I] es.size (fun i v => ∃ e, (pickOrder (w.params.setOrder a ep) es)[i]? = some e ∧ v = e.2)
      (fun i h => h.get? I = some (setIt (rawInt (0 : Nat)) i (.ref a) es.size ep) ∧ Held w h a o es ep t) where
  sub := fun b hb => by simp at hb; simp [hb]
  frame := fun _ _ _ st hk => ⟨hk I (by simp) _ st.1, st.2.at' fun o e => hk a (by simp) o e⟩
  item := fun i s Q E hi st hQ => by
    have hsz : (pickOrder (w.params.setOrder a ep) es).size = es.size := by
      have := (pickOrder_perm (w.params.setOrder a ep) es).length_eq; simpa using this
    have e : (pickOrder (w.params.setOrder a ep) es)[i]? = some ((pickOrder (w.params.setOrder a ep) es)[i]'(by omega)) := by simp [hsz, hi]
    refine next_slot st.2 st.1 (fun Q' E' hq => setNext_text st.2 hb (by rw [e]; exact hq)) fun h' hI' hs' => ?_
    exact hQ _ h' s.toks ⟨_, e, rfl⟩ ⟨hI', st.2.at' fun o e => hs'.extBut a o hne e⟩ fun b o hb e => hs'.extBut b o (fun h => hb (by simp [h])) e
  done := fun s Q E st hQ => by
    have hsz : (pickOrder (w.params.setOrder a ep) es).size = es.size := by
      have := (pickOrder_perm (w.params.setOrder a ep) es).length_eq; simpa using this
    refine stop_slot hh st.2 st.1 (fun Q' E' hq => setNext_text st.2 hb (by rw [Array.getElem?_eq_none (by omega)]; exact hq)) fun h' he => ?_
    exact hQ h' s.toks fun b o hb e => he b o (fun h => hb (by simp [h])) e
  self := fun i s Q E st hQ => iter_self st.1 hQ

theorem walks_slots (hh : A.handled = none) (I a : Addr) (hne : a ≠ I) (o : Obj) (es : Array (Int × Value)) (ep : Nat) (t : SetTable) (hb : bt w = false) (hd : (!t.plain && decide (es.size > 1)) = false) :
    Walks prog w A I [I, a] [I] es.size (fun i v => ∃ e, es[i]? = some e ∧ v = e.2)
      (fun i h => h.get? I = some (setIt (rawInt ((if i = 0 then 0 else t.place.getD (i - 1) 0 + 1 : Nat))) i (.ref a) es.size ep) ∧ Held w h a o es ep t) where
  sub := fun b hb => by simp at hb; simp [hb]
  frame := fun _ _ _ st hk => ⟨hk I (by simp) _ st.1, st.2.at' fun o e => hk a (by simp) o e⟩
  item := fun i s Q E hi st hQ => by
    have hsz : t.place.size = es.size := by
      have := st.2.fits; simp only [SetTable.fits, Bool.and_eq_true, beq_iff_eq] at this; exact this.1
    have hw := walk_at st.2.ok.rise i (by omega)
    have e : es[i]? = some (es[i]) := by simp [hi]
    have ep' : t.place[i]? = some (t.place[i]'(by omega)) := by simp [hsz, hi]
    refine next_slot (x := (es[i]).2) (next := t.place.getD i 0 + 1) st.2 st.1 (fun Q' E' hq => setNext_slots st.2 hb hd ?_) fun h' hI' hs' => ?_
    · rw [hw, e, ep']
      have : t.place.getD i 0 = t.place[i]'(by omega) := by simp [Array.getD, hsz, hi]
      rw [← this]; exact hq
    · refine hQ _ h' s.toks ⟨_, e, rfl⟩ ⟨?_, st.2.at' fun o e => hs'.extBut a o hne e⟩ fun b o hb e => hs'.extBut b o (fun h => hb (by simp [h])) e
      simpa using hI'
  done := fun s Q E st hQ => by
    have hsz : t.place.size = es.size := by
      have := st.2.fits; simp only [SetTable.fits, Bool.and_eq_true, beq_iff_eq] at this; exact this.1
    have hw := walk_at st.2.ok.rise es.size (by omega)
    refine stop_slot hh st.2 st.1 (fun Q' E' hq => setNext_slots st.2 hb hd ?_) fun h' he => ?_
    · rw [hw, Array.getElem?_eq_none (Nat.le_refl _)]; exact hq
    · exact hQ h' s.toks fun b o hb e => he b o (fun h => hb (by simp [h])) e
  self := fun i s Q E st hQ => iter_self st.1 hQ

theorem walks_drawn (hh : A.handled = none) (I a T : Addr) (hne : a ≠ I) (hneT : T ≠ I) (o oT : Obj) (nT : Nat) (es : Array (Int × Value)) (ep : Nat) (t : SetTable) (l : List Nat) (hl : l.Perm (List.range es.size)) (hTd : oT.data = .seq (l.map fun i : Nat => rawInt i).toArray nT) :
    Walks prog w A I [I, a, T] [I] es.size (fun i v => ∃ p e, l[i]? = some p ∧ es[p]? = some e ∧ v = e.2)
      (fun i h => h.get? I = some (setIt (.ref T) i (.ref a) es.size ep) ∧ Held w h a o es ep t ∧ h.get? T = some oT) where
  sub := fun b hb => by simp at hb; simp [hb]
  frame := fun _ _ _ st hk => ⟨hk I (by simp) _ st.1, st.2.1.at' fun o e => hk a (by simp) o e, hk T (by simp) _ st.2.2⟩
  item := fun i s Q E hi st hQ => by
    have hlen : l.length = es.size := by simpa using hl.length_eq
    have hil : i < l.length := by omega
    have hp : l[i] < es.size := by simpa using hl.mem_iff.mp (List.getElem_mem hil)
    have e : es[l[i]]? = some (es[l[i]]) := by simp [hp]
    have e2 : ((l.map fun i : Nat => rawInt i).toArray)[i]? = some (rawInt (l[i] : Nat)) := by simp [hil]
    refine next_drawn st.2.1 st.1 st.2.2 hTd e2 e fun h' hI' hs' => ?_
    exact hQ _ h' s.toks ⟨_, _, by simp [hil], e, rfl⟩ ⟨hI', st.2.1.at' fun o e => hs'.extBut a o hne e, hs'.extBut T _ hneT st.2.2⟩ fun b o hb e => hs'.extBut b o (fun h => hb (by simp [h])) e
  done := fun s Q E st hQ => by
    have hlen : l.length = es.size := by simpa using hl.length_eq
    refine stop_drawn hh st.2.1 st.1 st.2.2 hTd (by simp [hlen]) fun h' he => ?_
    exact hQ h' s.toks fun b o hb e => he b o (fun h => hb (by simp [h])) e
  self := fun i s Q E st hQ => iter_self st.1 hQ
end
end Mine
end

/-! # MS6 -/
section
set_option autoImplicit false
set_option maxRecDepth 100000
namespace Mine
open PySem PyProof.Rows

section
variable {prog : Program} {w : World} {A : Around} {E : Value → Shared → Prop} {s : Shared}

theorem filterMap_map_of {α β : Type} {f : α → Option β} {g : α → β} : ∀ {l : List α}, (∀ x ∈ l, f x = some (g x)) → l.filterMap f = l.map g
  | [], _ => rfl
  | x :: l, h => by rw [List.filterMap_cons_some (h x (.head _)), filterMap_map_of fun y hy => h y (.tail _ hy)]; rfl

/-- what a set's walk yields -/
def Yields (P : Nat → Value → Prop) (n : Nat) (vs : List Value) : Prop := ∀ acc : Array Value, ItemsOf P acc n → acc.toList.Perm vs

theorem iter_set {a : Addr} {o : Obj} {es : Array (Int × Value)} {ep : Nat} {t : SetTable} {Q : Value → Shared → Prop} (hh : A.handled = none) (H : Held w s.heap a o es ep t) (hsz : es.size < scanBound)
    (hQ : ∀ I fp P St h' dr, Walks prog w A I fp [I] es.size P St → St 0 h' → (∀ b o, s.heap.get? b = some o → h'.get? b = some o) → s.heap.get? I = none → (∀ b ∈ fp, b < h'.objs.size) → s.heap.objs.size ≤ I → (∀ b ∈ fp, b = a ∨ s.heap.objs.size ≤ b) →
      Yields P es.size (es.toList.map (·.2)) → Q (.ref I) { s with heap := h', drawn := dr }) : wpAny (model prog w) A (pyIter (.ref a)) Q E s := by
  have hT : s.TypeIs (.ref a) "set" := ⟨o, H.at_, H.exact_.1⟩
  have ha : a < s.heap.objs.size := Heap.lt_size H.at_
  have hnew : ∀ b : Nat, s.heap.objs.size ≤ b → s.heap.get? b = none := fun b hb => by
    cases e : s.heap.get? b with
    | none => rfl
    | some o => exact absurd (Heap.lt_size e) (Nat.not_lt.mpr hb)
  refine wpAny_pyIter_slot hT F.slot_set_iter (wpAny_call_entry F.slot_set_iter hT entry_set_iter ?_ (F.args_set_iter_1 _))
  unfold Builtin.«frozenset.__iter__» Builtin.Frozenset.slot0 slotArgs
  simp only [List.isEmpty_nil, Bool.not_true, Bool.false_eq_true, ↓reduceIte, bind_assoc, List.length_nil, bne_self_eq_false]
  unfold Builtin.Frozenset.addrOf Builtin.Frozenset.sizeOf
  refine wpAny_bind (wpAny_pure ?_)
  try dsimp only
  refine wpAny_bind (wpAny_pure ?_)
  refine wpAny_bind (wpAny_bind (wpAny_setEntries_of H.at_ H.data H.fits (wpAny_pure ?_)))
  refine wpAny_bind ?_
  unfold setDrawn
  refine wpAny_bind (wpAny_setState_of H.at_ H.data H.fits ?_)
  dsimp only
  refine wpAny_bind (byText_at (wpAny_pure ?_))
  show wpAny _ _ (if (!bt w && (!t.plain && decide (es.size > 1))) = true then _ else _) _ _ s
  -- what is done with the first field
  have fin : ∀ (first : Value) (h₁ : Heap) (dr : Drawn), (∀ b o, s.heap.get? b = some o → h₁.get? b = some o) →
      (∀ I h', I = h₁.objs.size → h' = h₁.push (setIt first (0 : Nat) (.ref a) es.size ep) → Q (.ref I) { s with heap := h', drawn := dr }) →
      wpAny (model prog w) A.in1 (do
        let epv ← setEpoch a
        let r ← newFields "set_iterator" [first, rawInt 0, .ref a, rawInt es.size, rawInt epv]
        ret r) (fun fin s' => ∃ v, fin = .done (.ret v) ∧ ∃ T' r, s'.TypeIs v T' ∧ typeLookup (.type T') "__next__" = pure (some r) ∧ Q v s') E { s with heap := h₁, drawn := dr } := by
    intro first h₁ dr hk hq
    refine wpAny_bind (wpAny_setEpoch_of (hk _ _ H.at_) H.data H.fits ?_)
    refine wpAny_bind (wpAny_newObj_type (wpAny_pure ⟨_, rfl, "set_iterator", _, ⟨_, Heap.get?_push_size _ rfl, rfl⟩, slot_setiter_next.lookup, ?_⟩))
    exact hq _ _ rfl rfl
  have hx : ∀ {P : Nat → Value → Prop} {vs : List Value} {n : Nat}, vs.length = n → (∀ i v, P i v → vs[i]? = some v) → Yields P n vs := by
    intro P vs n hn hp acc hacc
    have : acc.toList = vs := by
      refine List.ext_getElem? fun i => ?_
      by_cases hi : i < n
      · have hia : i < acc.size := by rw [hacc.1]; exact hi
        have e : acc[i]? = some acc[i] := by simp [hia]
        have := hp i _ (hacc.2 i _ e)
        rw [this]; simp [hia]
      · rw [List.getElem?_eq_none (by rw [Array.length_toList, hacc.1]; omega), List.getElem?_eq_none (by omega)]
    rw [this]
  by_cases hd : (!bt w && (!t.plain && decide (es.size > 1))) = true
  · rw [if_pos hd]
    refine wpAny_bind (drawOrder_at es.size (List.range es.size) s (by simp) fun l dr hl => ?_)
    refine wpAny_bind <| wpAny_newTuple (items := l.map fun i : Nat => rawInt i) ?_ (fits_of_scanBound (by rw [List.length_map, hl.length_eq, List.length_range]; exact hsz))
    generalize hH : s.heap.push { cls := .type "tuple", data := .seq (l.map fun i : Nat => rawInt i).toArray } = H₁
    have hHs : H₁.objs.size = s.heap.objs.size + 1 := by rw [← hH, Heap.size_push]
    have hT₁ : H₁.get? s.heap.objs.size = some { cls := .type "tuple", data := .seq (l.map fun i : Nat => rawInt i).toArray } := hH ▸ Heap.get?_push_size _ rfl
    have hk₁ : ∀ b o, s.heap.get? b = some o → H₁.get? b = some o := fun b o e => hH ▸ Heap.get?_push_of_some _ e
    refine fin _ H₁ dr hk₁ fun I h' hI hh' => ?_
    subst hI hh'
    have hlen : l.length = es.size := by simpa using hl.length_eq
    refine hQ _ _ _ _ _ dr (walks_drawn hh H₁.objs.size a s.heap.objs.size (by rw [hHs]; exact Nat.ne_of_lt (Nat.lt_succ_of_lt ha)) (by rw [hHs]; exact Nat.ne_of_lt (Nat.lt_succ_self _)) o _ 0 es ep t l hl rfl)
      ⟨Heap.get?_push_size _ rfl, H.at' fun o e => Heap.get?_push_of_some _ (hk₁ a o e), Heap.get?_push_of_some _ hT₁⟩ (fun b o e => Heap.get?_push_of_some _ (hk₁ b o e)) (hnew _ (by rw [hHs]; exact Nat.le_succ _)) ?_ (by rw [hHs]; exact Nat.le_succ _) ?_ ?_
    · intro b hb
      rw [Heap.size_push, hHs]
      simp at hb
      rcases hb with rfl | rfl | rfl
      · rw [hHs]; exact Nat.lt_succ_self _
      · exact Nat.lt_succ_of_lt (Nat.lt_succ_of_lt ha)
      · exact Nat.lt_succ_of_lt (Nat.lt_succ_self _)
    · intro b hb
      simp at hb
      rcases hb with rfl | rfl | rfl
      · right; rw [hHs]; exact Nat.le_succ _
      · exact .inl rfl
      · right; exact Nat.le_refl _
    · intro acc hacc
      have e : acc.toList = l.filterMap fun p => (es[p]?).map (·.2) := by
        have : l.filterMap (fun p => (es[p]?).map (·.2)) = l.map fun p => (es.getD p (0, .none)).2 := by
          refine filterMap_map_of fun p hp => ?_
          have hp' : p < es.size := by simpa using hl.mem_iff.mp hp
          simp [Array.getD, hp']
        rw [this]
        refine List.ext_getElem (by simp [hacc.1, hlen]) fun i h1 h2 => ?_
        have hia : i < acc.size := by simpa using h1
        have e : acc[i]? = some acc[i] := by simp [hia]
        obtain ⟨p, e', q1, q2, q3⟩ := hacc.2 i _ e
        have hil : i < l.length := by simpa using h2
        simp only [Array.getElem_toList, List.getElem_map]
        rw [q3]
        have : l[i] = p := by rw [List.getElem?_eq_getElem hil] at q1; exact Option.some.inj q1
        rw [this]
        obtain ⟨hp, rfl⟩ := Array.getElem?_eq_some_iff.mp q2
        simp [Array.getD, hp]
      rw [e]
      have := hl.filterMap fun p => (es[p]?).map (·.2)
      refine this.trans (List.Perm.of_eq ?_)
      have h2 := filterMap_getElem?_range es
      rw [← h2, List.map_filterMap]
  · rw [if_neg hd]
    refine wpAny_bind (wpAny_pure ?_)
    have hk₁ : ∀ b o, s.heap.get? b = some o → s.heap.get? b = some o := fun b o e => e
    refine fin _ s.heap s.drawn hk₁ fun I h' hI hh' => ?_
    subst hI hh'
    have hne : a ≠ s.heap.objs.size := Nat.ne_of_lt ha
    have hfp : ∀ b ∈ [s.heap.objs.size, a], b < (s.heap.push (setIt (rawInt 0) (0 : Nat) (.ref a) es.size ep)).objs.size := fun b hb => by
      rw [Heap.size_push]
      simp at hb
      rcases hb with rfl | rfl
      · exact Nat.lt_succ_self _
      · exact Nat.lt_succ_of_lt ha
    have hfp2 : ∀ b ∈ [s.heap.objs.size, a], b = a ∨ s.heap.objs.size ≤ b := fun b hb => by
      simp at hb
      rcases hb with rfl | rfl
      · exact .inr (Nat.le_refl _)
      · exact .inl rfl
    cases hb : bt w with
    | true =>
      refine hQ _ _ _ _ _ _ (walks_text hh s.heap.objs.size a hne o es ep t hb) ⟨Heap.get?_push_size _ rfl, H.at' fun o e => Heap.get?_push_of_some _ e⟩ (fun b o e => Heap.get?_push_of_some _ e) (hnew _ (Nat.le_refl _)) hfp (Nat.le_refl _) hfp2 ?_
      intro acc hacc
      have hp := pickOrder_perm (w.params.setOrder a ep) es
      refine (hx (vs := (pickOrder (w.params.setOrder a ep) es).toList.map (·.2)) (by simpa using hp.length_eq) (fun i v hv => ?_) acc hacc).trans (hp.map _)
      obtain ⟨e, q1, q2⟩ := hv
      rw [List.getElem?_map, Array.getElem?_toList, q1, q2]; rfl
    | false =>
      have hd' : (!t.plain && decide (es.size > 1)) = false := by rw [hb] at hd; simpa using hd
      refine hQ _ _ _ _ _ _ (walks_slots hh s.heap.objs.size a hne o es ep t hb hd') ⟨Heap.get?_push_size _ rfl, H.at' fun o e => Heap.get?_push_of_some _ e⟩ (fun b o e => Heap.get?_push_of_some _ e) (hnew _ (Nat.le_refl _)) hfp (Nat.le_refl _) hfp2 ?_
      refine hx (by simp) fun i v hv => ?_
      obtain ⟨e, q1, q2⟩ := hv
      rw [List.getElem?_map, Array.getElem?_toList, q1, q2]; rfl
end
end Mine
end

/-! # MS7 -/
section
set_option autoImplicit false
set_option maxRecDepth 100000
namespace Mine
open PySem PyProof.Rows

theorem split_set_len : splitId "set.__len__" = some ("set", "__len__") := by decide +kernel

theorem perm_ints {vs ws : List Value} (hp : vs.Perm ws) : ∀ {ns : List Int}, IntsAre ws ns → ∃ ms, IntsAre vs ms ∧ ms.Perm ns := by
  induction hp with
  | nil => intro ns h; cases h; exact ⟨[], .nil, .nil⟩
  | cons x _ ih => intro ns h; cases h with | cons n t h => obtain ⟨ms, q1, q2⟩ := ih h; exact ⟨n :: ms, .cons n t q1, q2.cons n⟩
  | swap x y l => intro ns h; cases h with | cons n t h => cases h with | cons m u h => exact ⟨_, .cons _ _ (.cons _ _ h), .swap _ _ _⟩
  | trans _ _ ih1 ih2 => intro ns h; obtain ⟨ms, q1, q2⟩ := ih2 h; obtain ⟨ls, q3, q4⟩ := ih1 q1; exact ⟨ls, q3, q4.trans q2⟩

section
variable {prog : Program} {w : World} {A : Around} {E : Value → Shared → Prop} {s : Shared}

theorem collect_set {a : Addr} {S : List Int} {Q : List Value → Shared → Prop} (hh : A.handled = none) (H : SetI prog w s.heap a S)
    (hQ : ∀ vs ns s', Kp s s' → IntsAre vs ns → ns.Nodup → (∀ k, k ∈ ns ↔ k ∈ S) → vs.length < scanBound → Q vs s') : wpAny (model prog w) A (collect (.ref a)) Q E s := by
  obtain ⟨o, es, ep, t, ms, ho, hx, hd, hel, hi, hn, hm, hsz, hf, hok⟩ := H
  have ha : a < s.heap.objs.size := Heap.lt_size ho
  unfold collect
  refine wpAny_bind (wpAny_runValue (codeAny_builtin PySem.F.entry_proto_collect ?_))
  rw [Around.under_plainId PySem.F.plain_proto_collect _]
  show wpAny _ A.in1 (newList [] >>= fun l => again (.builtin "list.__iadd__" ⟨[l, .ref a], []⟩)) _ _ s
  refine wpAny_bind (wpAny_newObj_type ?_)
  refine wpAny_pure ⟨plainId_quiet PySem.F.plain_list_iadd _, codeAny_builtin PySem.F.entry_list_iadd ?_⟩
  rw [Around.under_plainId PySem.F.plain_list_iadd _]
  generalize hH : s.heap.push { cls := .type "list", data := .seq ([] : List Value).toArray } = H₁
  have hk₁ : ∀ b o, s.heap.get? b = some o → H₁.get? b = some o := fun b o e => hH ▸ Heap.get?_push_of_some _ e
  have hS₁ : H₁.get? s.heap.objs.size = some { cls := .type "list", data := .seq ([] : List Value).toArray } := hH ▸ Heap.get?_push_size _ rfl
  have hSs : H₁.objs.size = s.heap.objs.size + 1 := by rw [← hH, Heap.size_push]
  have hSa : s.heap.objs.size ≠ a := Nat.ne_of_gt ha
  have h1 : Builtin.List.listSameRef (.ref s.heap.objs.size) (.ref a) = false := by simp [Builtin.List.listSameRef, hSa]
  have hT : Shared.TypeIs { s with heap := H₁ } (.ref a) "set" := ⟨o, hk₁ _ _ ho, hx.1⟩
  show wpAny _ A.in1 (Builtin.List.listExtendWith (.ref s.heap.objs.size) (.ref a) (.ref s.heap.objs.size)) _ _ { s with heap := H₁ }
  unfold Builtin.List.listExtendWith
  refine wpAny_bind (wpAny_typeOf hT ?_)
  rw [if_neg (by rw [h1]; decide)]
  refine wpAny_bind (iter_set (s := { s with heap := H₁ }) (A := A.in1) (by simp [hh]) ⟨hk₁ _ _ ho, hx, hd, hf, hok⟩ hsz fun I fp P St h' dr W st hk hI hfp hIn hfp2 hY => ?_)
  dsimp only
  have hT' : Shared.TypeIs { s with heap := h', drawn := dr } (.ref a) "set" := ⟨o, hk _ _ (hk₁ _ _ ho), hx.1⟩
  refine wpAny_bind (wpAny_holding ?_)
  unfold Builtin.List.listLengthHint
  refine wpAny_bind (wpAny_specialOf hT' F.slot_set_len.lookup ?_)
  (generalize hid : ("set.__len__" : String) = id0; (fail_if_success (clear hid id0)); wp_delta; rw [show splitId id0 = some ("set", "__len__") from by subst hid; exact split_set_len]; subst hid)
  refine wpAny_bind (wpAny_isInstance (b := true) hT' (by rw [isSubtype_type]; kernel_rfl) ?_)
  rw [if_neg (by decide)]
  rw [if_pos (by decide +kernel)]
  refine wpAny_bind (wpAny_typeOf hT' ?_)
  refine wpAny_pure ?_
  rw [if_pos (by decide +kernel)]
  refine wpAny_bind (wpAny_rule ?_)
  unfold Builtin.List.listTouch
  have hS' : h'.get? s.heap.objs.size = some (seqObj "list" #[] 0) := hk _ _ hS₁
  refine wpAny_bind (wpAny_bind (listUpdate_at hS' rfl ?_ (hsz := by simp) (hsz2 := by simp)))
  have e1 := get?_update_seq hS' (·.push .none)
  refine listUpdate_at e1 rfl ?_ (hsz := by simp [sizeLine_eq]) (hsz2 := by simp)
  have e2 := get?_update_seq e1 (·.pop)
  dsimp only
  generalize hH3 : (h'.update s.heap.objs.size (Obj.mapSeq (·.push .none))).update s.heap.objs.size (Obj.mapSeq (·.pop)) = H₃ at e2 ⊢
  have hk₃ : ∀ b o, b ≠ s.heap.objs.size → h'.get? b = some o → H₃.get? b = some o := fun b o hb e => by
    rw [← hH3, Heap.get?_update_ne _ _ _ _ hb, Heap.get?_update_ne _ _ _ _ hb]; exact e
  have hSf : s.heap.objs.size ∉ fp := fun hm => by
    rcases hfp2 _ hm with q | q
    · exact hSa q
    · exact absurd q (by show ¬ H₁.objs.size ≤ s.heap.objs.size; rw [hSs]; exact Nat.not_succ_le_self _)
  refine wpAny_pure ⟨plainId_quiet PySem.F.plain_extend_loop _, codeAny_extend_loopS W.toS (fits_of_scanBound hsz) _ hSf _ es.size 0 _ _ _ rfl (Nat.zero_le _)
    (W.frame 0 _ _ st fun b hb o e => hk₃ b o (fun q => hSf (q ▸ hb)) e) e2 (ItemsOf.nil P) fun s' acc' c' hmv hS'' hacc => ?_⟩
  show wpAny _ A (load s.heap.objs.size >>= _) _ _ s'
  refine wpAny_bind (wpAny_load hS'' ?_)
  have hold : ∀ b o, s.heap.get? b = some o → b ≠ s.heap.objs.size := fun b o e q => by
    have := Heap.lt_size e; rw [q] at this; exact Nat.lt_irrefl _ this
  have hp := hY acc' hacc
  obtain ⟨ns', h1', h2'⟩ := perm_ints hp hi
  refine wpAny_pure (hQ acc'.toList ns' s' ⟨fun b o e => hmv.heap b o ?_ (hk₃ b o (hold b o e) (hk b o (hk₁ b o e))), ⟨hmv.os, hmv.gens⟩⟩ h1' (h2'.nodup_iff.mpr hn) (fun k => h2'.mem_iff.trans (hm k)) ?_)
  · intro q
    rcases List.mem_cons.mp q with q | q
    · exact hold b o e q
    · rw [List.mem_singleton] at q
      have h2 : H₁.get? I = none := hI
      rw [← q, hk₁ b o e] at h2; cases h2
  · rw [Array.length_toList, hacc.1]; exact hsz
end
end Mine
end

/-! # MS8 -/
section
set_option autoImplicit false
set_option maxRecDepth 100000
namespace Mine
open PySem PySem.Calls PyProof.Rows

/-! ## the sorted form of a set of ints -/
def ins (x : Int) : List Int → List Int
  | [] => [x]
  | y :: l => if x < y then x :: y :: l else if x = y then y :: l else y :: ins x l
def norm (S : List Int) : List Int := S.foldr ins []

theorem mem_ins {x k : Int} : ∀ {l : List Int}, k ∈ ins x l ↔ k = x ∨ k ∈ l
  | [] => by simp [ins]
  | y :: l => by
    unfold ins
    split
    · simp
    · split
      · rename_i h; subst h; simp
      · simp [mem_ins (l := l)]; constructor
        · rintro (h | h | h) <;> simp [h]
        · rintro (h | h | h) <;> simp [h]
theorem mem_norm {k : Int} : ∀ {S : List Int}, k ∈ norm S ↔ k ∈ S
  | [] => by simp [norm]
  | x :: S => by
    show k ∈ ins x (norm S) ↔ _
    rw [mem_ins, mem_norm (S := S)]; simp
theorem ins_lt {x : Int} : ∀ {l : List Int}, l.Pairwise (· < ·) → (ins x l).Pairwise (· < ·)
  | [], _ => by simp [ins]
  | y :: l, h => by
    rw [List.pairwise_cons] at h
    unfold ins
    split
    · rename_i hx
      refine List.pairwise_cons.mpr ⟨fun k hk => ?_, List.pairwise_cons.mpr h⟩
      rcases List.mem_cons.mp hk with q | q
      · omega
      · have := h.1 k q; omega
    · split
      · exact List.pairwise_cons.mpr h
      · rename_i h1 h2
        refine List.pairwise_cons.mpr ⟨fun k hk => ?_, ins_lt h.2⟩
        rcases mem_ins.mp hk with q | q
        · omega
        · exact h.1 k q
theorem norm_lt : ∀ (S : List Int), (norm S).Pairwise (· < ·)
  | [] => .nil
  | _ :: S => ins_lt (norm_lt S)
theorem lt_ext : ∀ {l m : List Int}, l.Pairwise (· < ·) → m.Pairwise (· < ·) → (∀ k, k ∈ l ↔ k ∈ m) → l = m
  | [], [], _, _, _ => rfl
  | [], y :: m, _, _, h => by have := (h y).mpr (.head _); cases this
  | x :: l, [], _, _, h => by have := (h x).mp (.head _); cases this
  | x :: l, y :: m, hl, hm, h => by
    rw [List.pairwise_cons] at hl hm
    have hxy : x = y := by
      rcases List.mem_cons.mp ((h x).mp (.head _)) with q | q
      · exact q
      · rcases List.mem_cons.mp ((h y).mpr (.head _)) with z | z
        · exact z.symm
        · have := hm.1 x q; have := hl.1 y z; omega
    subst hxy
    rw [lt_ext hl.2 hm.2 fun k => ?_]
    constructor
    · intro q
      rcases List.mem_cons.mp ((h k).mp (.tail _ q)) with z | z
      · have := hl.1 k q; omega
      · exact z
    · intro q
      rcases List.mem_cons.mp ((h k).mpr (.tail _ q)) with z | z
      · have := hm.1 k q; omega
      · exact z
theorem norm_of {S l : List Int} (hn : l.Nodup) (hp : l.Pairwise (· ≤ ·)) (hm : ∀ k, k ∈ l ↔ k ∈ S) : l = norm S := by
  refine lt_ext ?_ (norm_lt S) fun k => (hm k).trans mem_norm.symm
  have := hp.and hn
  exact this.imp fun h => by omega
theorem norm_congr {S S' : List Int} (h : ∀ k, k ∈ S ↔ k ∈ S') : norm S = norm S' := lt_ext (norm_lt _) (norm_lt _) fun k => mem_norm.trans ((h k).trans mem_norm.symm)
theorem norm_length_le (S : List Int) : (norm S).length ≤ S.length :=
  nodup_len ((norm_lt S).imp fun h => by omega) fun _ h => mem_norm.mp h
theorem norm_sorted {l : List Int} (h : l.Pairwise (· < ·)) : norm l = l := lt_ext (norm_lt _) h fun _ => mem_norm

/-- list.sort() sorts ints, fewer than N -/
def SortLt (N : Nat) : Prop := ∀ (prog : Program) (w : World) (A : Around) (E : Value → Shared → Prop) (s : Shared) (a : Addr) (vs : List Value) (ns : List Int) (n : Nat) (P : Fin → Shared → Prop),
  s.heap.get? a = some (seqObj "list" vs.toArray n) → IntsAre vs ns → vs.length < N →
  (∀ (out : Array Value) (ns' : List Int), IntsAre out.toList ns' → ns'.Perm ns → ns'.Pairwise (· ≤ ·) → P (.done (.ret .none)) { s with heap := sortedHeap s.heap a vs out }) →
  wpAny (model prog w) A (Builtin.«list.sort» ⟨[.ref a], []⟩) P E s
theorem sortLt64 : SortLt 64 := fun _ _ _ _ _ _ _ _ _ _ ho hI h64 h => list_sort_tree ho hI h64 h

section
variable {prog : Program} {w : World} {A : Around} {E : Value → Shared → Prop} {s : Shared}

theorem sortedHeap_at {h : Heap} {a : Addr} {vs : List Value} {n : Nat} {out : Array Value} (ho : h.get? a = some (seqObj "list" vs.toArray n)) : ∃ e, (sortedHeap h a vs out).get? a = some (seqObj "list" out e) := by
  have ha : a < h.objs.size := Heap.lt_size ho
  have e1 := get?_update_seq ho (fun _ => #[])
  have e2 : (((h.update a (Obj.mapSeq fun _ => #[])).push (seqObj "tuple" vs.toArray 0)).push (seqObj "list" #[] 0)).get? a = _ := Heap.get?_push_of_some _ (Heap.get?_push_of_some _ e1)
  exact ⟨_, get?_update_seq e2 (fun _ => out)⟩
theorem sortedHeap_keep {h : Heap} {a b : Addr} {o : Obj} {vs : List Value} {out : Array Value} (hb : b ≠ a) (e : h.get? b = some o) : (sortedHeap h a vs out).get? b = some o := by
  unfold sortedHeap
  rw [Heap.get?_update_ne _ _ _ _ hb]
  refine Heap.get?_push_of_some _ (Heap.get?_push_of_some _ ?_)
  rw [Heap.get?_update_ne _ _ _ _ hb]; exact e

theorem sorted_setI {N : Nat} (hN : SortLt N) {a : Addr} {S : List Int} {Q : Value → Shared → Prop} (hh : A.handled = none) (H : SetI prog w s.heap a S) (hS : (norm S).length < N)
    (hQ : ∀ b vs s', Kp s s' → s.heap.get? b = none → PL s'.heap b vs → IntsAre vs.toList (norm S) → Q (.ref b) s') : wpAny (model prog w) A (call (.builtin "sorted") [.ref a]) Q E s := by
  refine Calls.call_function_entry kind_sorted plain_sorted entry_sorted (args_sorted1 _) ?_
  unfold Builtin.«sorted»
  refine wpAny_bind (m := checkCount "sorted" 1 1 _) (wpAny_pure ?_)
  refine wpAny_bind (collect_set (by simp [hh]) H fun vs ns s₁ k₁ hI hn hm hb => ?_)
  have hlen : vs.length = ns.length := hI.length
  have hnl : ns.length = (norm S).length := by
    refine Nat.le_antisymm (nodup_len hn fun k hk => mem_norm.mpr ((hm k).mp hk)) (nodup_len ((norm_lt S).imp fun h => by omega) fun k hk => (hm k).mpr (mem_norm.mp hk))
  refine wpAny_bind (wpAny_newList ?_ (fits_of_scanBound hb))
  have hnew : s₁.heap.get? s₁.heap.objs.size = none := by
    cases e : s₁.heap.get? s₁.heap.objs.size with
    | none => rfl
    | some o => exact absurd (Heap.lt_size e) (Nat.lt_irrefl _)
  show wpAny _ _ _ _ _ { s₁ with heap := s₁.heap.push (seqObj "list" vs.toArray 0) }
  have hoL : (s₁.heap.push (seqObj "list" vs.toArray 0)).get? s₁.heap.objs.size = some (seqObj "list" vs.toArray 0) := Heap.get?_push_size _ rfl
  have hk2 : ∀ b o, s.heap.get? b = some o → b ≠ s₁.heap.objs.size ∧ (s₁.heap.push (seqObj "list" vs.toArray 0)).get? b = some o := fun b o e => by
    have e' := k₁.sub b o e
    exact ⟨fun q => (by rw [q, hnew] at e'; cases e'), Heap.get?_push_of_some _ e'⟩
  have hfr : s.heap.get? s₁.heap.objs.size = none := by
    cases e : s.heap.get? s₁.heap.objs.size with
    | none => rfl
    | some o => exact absurd rfl (hk2 _ o e).1
  generalize s₁.heap.push (seqObj "list" vs.toArray 0) = H₁ at hoL hk2 ⊢
  generalize s₁.heap.objs.size = L at hoL hk2 hfr ⊢
  refine wpAny_bind (wpAny_holding (wpAny_call_entry slot_list_sort ⟨_, hoL, rfl⟩ entry_list_sort (hN _ _ _ _ _ _ _ _ _ _ hoL hI (by omega) fun out ns' a1 a2 a3 => ⟨_, rfl, ?_⟩) (args_list_sort _)))
  have hns : ns' = norm S := norm_of (a2.nodup_iff.mpr hn) a3 fun k => a2.mem_iff.trans (hm k)
  have hq := hQ L out { s₁ with heap := sortedHeap H₁ L vs out } ⟨fun b o e => sortedHeap_keep (hk2 b o e).1 (hk2 b o e).2, ⟨k₁.same.os, k₁.same.gens⟩⟩ hfr (let ⟨n, e⟩ := sortedHeap_at (out := out) hoL; ⟨_, e, rfl, rfl, n, rfl⟩) (hns ▸ a1)
  exact wpAny_pure ⟨_, rfl, hq⟩
end

theorem ints_rd {X : Addr → Prop} {h : Heap} : ∀ {vs : List Value} {ns : List Int}, IntsAre vs ns → RdAll X h vs (ns.map .int)
  | _, _, .nil => .nil
  | _, _, .cons n t r => .cons (.int n t) (ints_rd r)
theorem rd_ints {X : Addr → Prop} {h : Heap} : ∀ {vs : List Value} {ns : List Int}, RdAll X h vs (ns.map .int) → IntsAre vs ns
  | _, [], .nil => .nil
  | _, _ :: _, .cons (.int n t) r => .cons n t (rd_ints r)

section
variable {c : Cx} {k : Nat} {env : Env} {ρ : Vars} {μ : Mem}

/-- a call of a builtin that gives a list of its own -/
def GivesF (c : Cx) (X : Addr → Prop) (A : Around) (t : Sem Value) (ds : List D) (s : Shared) : Prop :=
  ∀ E, wpAny (model c.prog c.w) A t (fun v s' => Kp s s' ∧ ∃ a vs, v = .ref a ∧ s.heap.get? a = none ∧ PL s'.heap a vs ∧ RdAll (fun b => X b ∨ b = a) s'.heap vs.toList ds) E s

/-- a call of a builtin with one argument of any kind -/
theorem callWith_one {f : Value} {e : Expr} {pos : Pos} {A : Around} {s : Shared} {Q : Value → Shared → Prop} {E : Value → Shared → Prop} (hst : notStar e = true)
    (hk : ∀ s' (Q' : Keeper → Shared → Prop), Q' .machine s' → wpAny (model c.prog c.w) A (keeperOf f) Q' E s')
    (h : wpAny (model c.prog c.w) A (eval e env) (fun v s' => wpAny (model c.prog c.w) A (call f [v]) Q E s') E s) : wpAny (model c.prog c.w) A (callWith pos f [] (backTo pos (starEach [e] env)) []) Q E s := by
  have hpl : (backTo pos (starEach [e] env)).any (·.1) = false := by rw [starEach_cons hst]; rfl
  have hev : wpAny (model c.prog c.w) A (spliced (backTo pos (starEach [e] env))) (fun vs s' => ∃ v, vs = [v] ∧ wpAny (model c.prog c.w) A (call f [v]) Q E s') E s :=
    args_cons (wpAny_mono h (fun v s' q => args_nil ⟨v, rfl, q⟩) fun _ _ x => x) (starEach_cons hst)
  unfold callWith
  have hargs : wpAny (model c.prog c.w) A (evalArgs f true (backTo pos (starEach [e] env)) []) (fun a s' => a.kw = [] ∧ ∃ v, a.pos = [v] ∧ wpAny (model c.prog c.w) A (call f [v]) Q E s') E s := by
    rw [starEach_cons hst] at hev ⊢
    exact evalArgs_plain (wpAny_mono hev (fun vs s' q => ⟨rfl, q⟩) fun _ _ e => e)
  refine wpAny_bind (wpAny_holding (wpAny_mono hargs (fun a s₁ h₁ => wpAny_bind (wpAny_standAt ?_)) fun _ _ x => x))
  obtain ⟨pos', kw⟩ := a
  obtain ⟨rfl, v, rfl, hc⟩ := h₁
  simp only [hpl, List.any_nil, Bool.or_false, List.nil_append]
  refine wpAny_bind (hk s₁ _ ?_)
  exact wpAny_bind (wpAny_mono hc (fun r s₂ hr => wpAny_bind (wpAny_holding (wpAny_point (wpAny_pure hr)))) fun _ _ x => x)

/-- sorted(set(e)) -/
theorem evF_sortedSet {N : Nat} (hN : SortLt N) {x y : Str} {px py pos pos' : Pos} {e : Expr} {S : List Int} (hg : c.mg x = none) (hb : bootBuiltins x = some (.builtin "sorted")) (hg' : c.mg y = none) (hb' : bootBuiltins y = some (.type "set"))
    (he : Ev c k env ρ μ e (.list (S.map .int))) (hlen : S.length < 1000) (hS : (norm S).length < N)
    (hs : notStar e = true := by rfl) (hn : x ≠ "__name__" := by decide) (hn' : y ≠ "__name__" := by decide)
    (hx : env.kindOf x = some .globalImplicit := by rfl) (hx' : env.kindOf y = some .globalImplicit := by rfl) (hd : (x == ("__debug__" : Str)) = false := by decide) (hd' : (y == ("__debug__" : Str)) = false := by decide) :
    EvF c k env ρ μ (.Call (.Name x px) [.Call (.Name y py) [e] [] pos'] [] pos) ((norm S).map .int) := by
  intro X A s E hA R
  refine Call_ (name_builtin R hx hg hb hn ?_ hd)
  refine callWith_one rfl (fun s' Q' hq => wpAny_pure hq) ?_
  refine Call_ (name_builtin R hx' hg' hb' hn' ?_ hd')
  refine callWith_plain R hA (.cons he .nil hs) (fun s' k' => ⟨.machine, .inr rfl, fun Q' hq => wpAny_pure hq⟩) (by intro h; cases h) fun vs s₁ k₁ r₁ => ?_
  cases r₁ with
  | cons r1 r2 =>
    cases r2
    cases r1 with
    | list hX ho hc hd hr =>
      rename_i a o vs n
      have hi := rd_ints hr
      have hl : vs.size = S.length := by have := hi.length; simpa using this
      refine call_setI hA.handled ⟨o, ho, hc, n, hd⟩ hi (by rw [hl]; unfold scanBound; omega) fun h' tk a' hnew hSI hk => ?_
      refine sorted_setI hN hA.handled hSI hS fun b vs' s₂ k₂ hb hpl hints => ?_
      have kk : Kp s₁ { s₁ with heap := h', toks := tk } := Kp.heap s₁ h' tk hk
      refine ⟨(k₁.trans kk).trans k₂, b, vs', rfl, ?_, hpl, ints_rd hints⟩
      cases e' : s.heap.get? b with
      | none => rfl
      | some o => have := (k₁.trans kk).sub b o e'; rw [hb] at this; cases this
end
end Mine
end

/-! # MT1 -/
section
set_option autoImplicit false
set_option maxRecDepth 100000
namespace Mine
open PySem PyProof.Rows

/-! ## the sort of many items: the library proves fewer than 64 -/
abbrev SM := StateT SortSt Sem
def gallop' : Bool → Keyed → Array Keyed → Nat → Nat → Nat → SM (Option Nat) := sortPriv% PySem.Builtin.gallop
def mergeLo' : Array Keyed → Array Keyed → SM (Array Keyed) := sortPriv% PySem.Builtin.mergeLo
def mergeHi' : Array Keyed → Array Keyed → SM (Array Keyed) := sortPriv% PySem.Builtin.mergeHi

section
variable {M : Model} {A : Around} {E : Value → Shared → Prop} {s : Shared} {σ β : Type}
/-! ways that meet again -/
theorem wpS_iteR1 {ι : Type} {c : ι → Prop} {_ : ∀ g, Decidable (c g)} {T m : ι → StateT σ Sem β} {Q : β → σ → Prop} {st : σ} (hT : ∀ g, wpS M A E s (T g) Q st) (h1 : ∀ g, (∀ g, wpS M A E s (T g) Q st) → wpS M A E s (m g) Q st) : ∀ g, wpS M A E s (if c g then m g else T g) Q st := fun g => by
  split
  · exact h1 g hT
  · exact hT g
theorem wpS_iteJ {c : Prop} {_ : Decidable c} {T m : StateT σ Sem β} {Q : β → σ → Prop} {st : σ} (P : σ → Prop) (hT : ∀ st₁, P st₁ → wpS M A E s T Q st₁) (h1 : c → (∀ st₁, P st₁ → wpS M A E s T Q st₁) → wpS M A E s m Q st) (h2 : ¬ c → P st) : wpS M A E s (if c then m else T) Q st := by
  split
  · rename_i h; exact h1 h hT
  · rename_i h; exact hT st (h2 h)
theorem wpS_iteR2 {ι κ : Type} {c : ι → κ → Prop} {_ : ∀ o i, Decidable (c o i)} {T m : ι → κ → StateT σ Sem β} {H : ι → κ → Prop} {Q : β → σ → Prop} {st : σ} (P : ι → κ → Prop) (hT : ∀ o i, P o i → wpS M A E s (T o i) Q st)
    (h1 : ∀ o i, H o i → c o i → (∀ o i, P o i → wpS M A E s (T o i) Q st) → wpS M A E s (m o i) Q st) (h2 : ∀ o i, H o i → ¬ c o i → P o i) : ∀ o i, H o i → wpS M A E s (if c o i then m o i else T o i) Q st := fun o i hH => by
  split
  · rename_i h; exact h1 o i hH h hT
  · rename_i h; exact hT o i (h2 o i hH h)
end

/-- comparisons of the keys at hand answer by a rank -/
def Ranks (prog : Program) (w : World) (A : Around) (E : Value → Shared → Prop) (s : Shared) (kd : SortKind) (Dm : Keyed → Prop) (r : Keyed → Int) : Prop :=
  ∀ (st : SortSt) (x y : Keyed) (Q : Option Bool → SortSt → Prop), kindOf st = kd → Dm x → Dm y → Q (some (decide (r x < r y))) st → wpS (model prog w) A E s (lt' x y) Q st

section
variable {prog : Program} {w : World} {A : Around} {E : Value → Shared → Prop} {s : Shared} {kd : SortKind} {Dm : Keyed → Prop} {r : Keyed → Int}

theorem wpS_elem {arr : Array Keyed} {i : Nat} {x : Keyed} {Q : Keyed → SortSt → Prop} {st : SortSt} (h : arr[i]? = some x) (hq : Q x st) : wpS (model prog w) A E s (elem' arr i) Q st := by
  rw [elem'_eq, h]; exact wpS_pure hq

def bey (r : Keyed → Int) (left : Bool) (key x : Keyed) : Bool := if left then decide (r x < r key) else !decide (r key < r x)

theorem wpS_bey (hR : Ranks prog w A E s kd Dm r) {left : Bool} {key x : Keyed} {arr : Array Keyed} {j : Nat} {Q : Option Bool → SortSt → Prop} {st : SortSt} (hk : kindOf st = kd) (hx : arr[j]? = some x) (d1 : Dm key) (d2 : Dm x) (hq : Q (some (bey r left key x)) st) :
    wpS (model prog w) A E s (elem' arr j >>= fun x => if left = true then lt' x key else lt' key x >>= fun d => pure (Option.map (fun x => !x) d)) Q st := by
  refine wpS_bind (wpS_elem hx ?_)
  cases left with
  | true => exact hR st x key Q hk d2 d1 hq
  | false => exact wpS_bind (hR st key x _ hk d1 d2 (wpS_pure hq))

theorem wpS_gallop (hR : Ranks prog w A E s kd Dm r) {left : Bool} {key : Keyed} {arr : Array Keyed} {base n hint : Nat} {Q : Option Nat → SortSt → Prop} {st : SortSt} (hk : kindOf st = kd) (dk : Dm key) {f : Nat → Keyed}
    (hf : ∀ i, i < n → arr[base + i]? = some (f i) ∧ Dm (f i)) (hm : ∀ i j, i ≤ j → j < n → r (f i) ≤ r (f j)) (hh : hint < n)
    (hQ : ∀ k, k ≤ n → (∀ i, i < k → bey r left key (f i) = true) → (∀ i, k ≤ i → i < n → bey r left key (f i) = false) → Q (some k) st) : wpS (model prog w) A E s (gallop' left key arr base n hint) Q st := by
  have down : ∀ i j, i ≤ j → j < n → bey r left key (f j) = true → bey r left key (f i) = true := by
    intro i j hij hj
    have := hm i j hij hj
    unfold bey; cases left <;> simp <;> omega
  have up : ∀ i j, i ≤ j → j < n → bey r left key (f i) = false → bey r left key (f j) = false := by
    intro i j hij hj h
    cases e : bey r left key (f j) with
    | false => rfl
    | true => rw [down i j hij hj e] at h; exact h
  have ask : ∀ {i : Nat} {Q : Option Bool → SortSt → Prop}, i < n → Q (some (bey r left key (f i))) st → wpS (model prog w) A E s (elem' arr (base + i) >>= fun x => if left = true then lt' x key else lt' key x >>= fun d => pure (Option.map (fun x => !x) d)) Q st :=
    fun hi hq => wpS_bey hR hk (hf _ hi).1 dk (hf _ hi).2 hq
  refine wpS_bind (ask hh ?_)
  dsimp only
  cases e0 : bey r left key (f hint) with
  | true =>
    rw [if_pos rfl]
    refine wpS_bind (wpS_mono (wpS_forRange (I := fun x c st' => st' = st ∧ ∃ l o, c = (none, l, o) ∧ l < o ∧ x < o ∧ hint + l < n ∧ bey r left key (f (hint + l)) = true)
      (Q := fun c st' => st' = st ∧ ∃ l o, c = (none, l, o) ∧ l < o ∧ hint + l < n ∧ bey r left key (f (hint + l)) = true ∧ (n - hint ≤ o ∨ (hint + o < n ∧ bey r left key (f (hint + o)) = false))) ?step ?fin ⟨rfl, 0, 1, rfl, by omega, by omega, by omega, e0⟩) ?post)
    case fin =>
      rintro c st' ⟨rfl, l, o, rfl, h1, h2, h3, h4⟩
      exact ⟨rfl, l, o, rfl, h1, h3, h4, .inl (by omega)⟩
    case step =>
      rintro x c st' _ hx ⟨rfl, l, o, rfl, h1, h2, h3, h4⟩
      dsimp only
      by_cases hge : o ≥ n - hint
      · rw [if_pos hge]; exact wpS_pure ⟨rfl, l, o, rfl, h1, h3, h4, .inl hge⟩
      · rw [if_neg hge]
        have hm' : hint + o < n := by omega
        refine wpS_bind (ask hm' ?_)
        cases e : bey r left key (f (hint + o)) with
        | true => exact wpS_pure ⟨rfl, o, 2 * o + 1, rfl, by omega, by omega, hm', e⟩
        | false => exact wpS_pure ⟨rfl, l, o, rfl, h1, h3, h4, .inr ⟨hm', e⟩⟩
    case post =>
      rintro c st' ⟨rfl, l, o, rfl, h1, h3, h4, h5⟩
      dsimp only
      have hlh : hint + l + 1 ≤ hint + min o (n - hint) := by omega
      have hhn : hint + min o (n - hint) ≤ n := by omega
      have hlo : ∀ i, i < hint + l + 1 → bey r left key (f i) = true := fun i hi => down i _ (by omega) h3 h4
      have hhi : ∀ i, hint + min o (n - hint) ≤ i → i < n → bey r left key (f i) = false := fun i hi hn => by
        rcases h5 with h5 | ⟨h5, h6⟩
        · omega
        · exact up (hint + o) i (by omega) hn h6
      generalize hint + l + 1 = lo at hlh hlo ⊢
      generalize hint + min o (n - hint) = hi at hlh hhn hhi ⊢
      refine wpS_bind (wpS_mono (wpS_forRange (I := fun x c st'' => st'' = st' ∧ ∃ l h, c = (none, l, h) ∧ l ≤ h ∧ h ≤ n ∧ h - l ≤ n - x ∧ (∀ i, i < l → bey r left key (f i) = true) ∧ (∀ i, h ≤ i → i < n → bey r left key (f i) = false))
        (Q := fun c st'' => st'' = st' ∧ ∃ h, c = (none, h, h) ∧ h ≤ n ∧ (∀ i, i < h → bey r left key (f i) = true) ∧ (∀ i, h ≤ i → i < n → bey r left key (f i) = false)) ?lstep ?lfin ⟨rfl, lo, hi, rfl, hlh, hhn, by omega, hlo, hhi⟩) ?lpost)
      case lfin =>
        rintro c st'' ⟨rfl, l, h, rfl, h1, h2, h3, h4, h5⟩
        have : l = h := by omega
        subst this
        exact ⟨rfl, l, rfl, h2, h4, h5⟩
      case lstep =>
        rintro x c st'' _ hx ⟨rfl, l, h, rfl, h1, h2, h3, h4, h5⟩
        dsimp only
        by_cases hge : l ≥ h
        · rw [if_pos hge]
          have : l = h := by omega
          subst this
          exact wpS_pure ⟨rfl, l, rfl, h2, h4, h5⟩
        · rw [if_neg hge]
          have hm' : l + (h - l) / 2 < n := by omega
          refine wpS_bind (ask hm' ?_)
          cases e : bey r left key (f (l + (h - l) / 2)) with
          | true => exact wpS_pure ⟨rfl, _, h, rfl, by omega, h2, by omega, fun i hi => down i _ (by omega) hm' e, h5⟩
          | false => exact wpS_pure ⟨rfl, l, _, rfl, by omega, by omega, by omega, h4, fun i hi hn => up _ i hi hn e⟩
      case lpost =>
        rintro c st'' ⟨rfl, h, rfl, h2, h4, h5⟩
        exact wpS_pure (hQ h h2 h4 h5)
  | false =>
    rw [if_neg (by decide)]
    refine wpS_bind (wpS_mono (wpS_forRange (I := fun x c st' => st' = st ∧ ∃ l o, c = (none, l, o) ∧ l < o ∧ x < o ∧ l ≤ hint ∧ bey r left key (f (hint - l)) = false)
      (Q := fun c st' => st' = st ∧ ∃ l o, c = (none, l, o) ∧ l < o ∧ l ≤ hint ∧ bey r left key (f (hint - l)) = false ∧ (hint + 1 ≤ o ∨ (o ≤ hint ∧ bey r left key (f (hint - o)) = true))) ?step2 ?fin2 ⟨rfl, 0, 1, rfl, by omega, by omega, by omega, e0⟩) ?post2)
    case fin2 =>
      rintro c st' ⟨rfl, l, o, rfl, h1, h2, h3, h4⟩
      exact ⟨rfl, l, o, rfl, h1, h3, h4, .inl (by omega)⟩
    case step2 =>
      rintro x c st' _ hx ⟨rfl, l, o, rfl, h1, h2, h3, h4⟩
      dsimp only
      by_cases hge : o ≥ hint + 1
      · rw [if_pos hge]; exact wpS_pure ⟨rfl, l, o, rfl, h1, h3, h4, .inl hge⟩
      · rw [if_neg hge]
        have hm' : hint - o < n := by omega
        refine wpS_bind (ask hm' ?_)
        cases e : bey r left key (f (hint - o)) with
        | true => exact wpS_pure ⟨rfl, l, o, rfl, h1, h3, h4, .inr ⟨by omega, e⟩⟩
        | false => exact wpS_pure ⟨rfl, o, 2 * o + 1, rfl, by omega, by omega, by omega, e⟩
    case post2 =>
      rintro c st' ⟨rfl, l, o, rfl, h1, h3, h4, h5⟩
      dsimp only
      have hlh : hint + 1 - min o (hint + 1) ≤ hint - l := by omega
      have hhn : hint - l ≤ n := by omega
      have hlo : ∀ i, i < hint + 1 - min o (hint + 1) → bey r left key (f i) = true := fun i hi => by
        rcases h5 with h5 | ⟨h5, h6⟩
        · omega
        · exact down i (hint - o) (by omega) (by omega) h6
      have hhi : ∀ i, hint - l ≤ i → i < n → bey r left key (f i) = false := fun i hi hn => up _ i hi hn h4
      generalize hint + 1 - min o (hint + 1) = lo at hlh hlo ⊢
      generalize hint - l = hi at hlh hhn hhi ⊢
      refine wpS_bind (wpS_mono (wpS_forRange (I := fun x c st'' => st'' = st' ∧ ∃ l h, c = (none, l, h) ∧ l ≤ h ∧ h ≤ n ∧ h - l ≤ n - x ∧ (∀ i, i < l → bey r left key (f i) = true) ∧ (∀ i, h ≤ i → i < n → bey r left key (f i) = false))
        (Q := fun c st'' => st'' = st' ∧ ∃ h, c = (none, h, h) ∧ h ≤ n ∧ (∀ i, i < h → bey r left key (f i) = true) ∧ (∀ i, h ≤ i → i < n → bey r left key (f i) = false)) ?lstep ?lfin ⟨rfl, lo, hi, rfl, hlh, hhn, by omega, hlo, hhi⟩) ?lpost)
      case lfin =>
        rintro c st'' ⟨rfl, l, h, rfl, h1, h2, h3, h4, h5⟩
        have : l = h := by omega
        subst this
        exact ⟨rfl, l, rfl, h2, h4, h5⟩
      case lstep =>
        rintro x c st'' _ hx ⟨rfl, l, h, rfl, h1, h2, h3, h4, h5⟩
        dsimp only
        by_cases hge : l ≥ h
        · rw [if_pos hge]
          have : l = h := by omega
          subst this
          exact wpS_pure ⟨rfl, l, rfl, h2, h4, h5⟩
        · rw [if_neg hge]
          have hm' : l + (h - l) / 2 < n := by omega
          refine wpS_bind (ask hm' ?_)
          cases e : bey r left key (f (l + (h - l) / 2)) with
          | true => exact wpS_pure ⟨rfl, _, h, rfl, by omega, h2, by omega, fun i hi => down i _ (by omega) hm' e, h5⟩
          | false => exact wpS_pure ⟨rfl, l, _, rfl, by omega, by omega, by omega, h4, fun i hi hn => up _ i hi hn e⟩
      case lpost =>
        rintro c st'' ⟨rfl, h, rfl, h2, h4, h5⟩
        exact wpS_pure (hQ h h2 h4 h5)
end
end Mine
end

/-! # MT2 -/
section
set_option autoImplicit false
set_option maxRecDepth 100000
namespace Mine
open PySem PyProof.Rows

/-! ## merging, plain -/
section
variable {r : Keyed → Int}
def Le (r : Keyed → Int) (x y : Keyed) : Prop := r x ≤ r y
def Asc (r : Keyed → Int) (l : List Keyed) : Prop := l.Pairwise (Le r)
def AllLe (r : Keyed → Int) (l m : List Keyed) : Prop := ∀ x ∈ l, ∀ y ∈ m, r x ≤ r y
theorem AllLe.append_left {l l' m : List Keyed} (h : AllLe r l m) (h' : AllLe r l' m) : AllLe r (l ++ l') m := fun x hx y hy => (List.mem_append.mp hx).elim (fun q => h x q y hy) fun q => h' x q y hy
theorem AllLe.append_right {l m m' : List Keyed} (h : AllLe r l m) (h' : AllLe r l m') : AllLe r l (m ++ m') := fun x hx y hy => (List.mem_append.mp hy).elim (fun q => h x hx y q) fun q => h' x hx y q
theorem AllLe.left {l l' m : List Keyed} (h : AllLe r (l ++ l') m) : AllLe r l m ∧ AllLe r l' m := ⟨fun x hx => h x (List.mem_append_left _ hx), fun x hx => h x (List.mem_append_right _ hx)⟩
theorem AllLe.right {l m m' : List Keyed} (h : AllLe r l (m ++ m')) : AllLe r l m ∧ AllLe r l m' := ⟨fun x hx y hy => h x hx y (List.mem_append_left _ hy), fun x hx y hy => h x hx y (List.mem_append_right _ hy)⟩
theorem asc_append {l m : List Keyed} : Asc r (l ++ m) ↔ Asc r l ∧ Asc r m ∧ AllLe r l m := List.pairwise_append

/-- what is out, what is left -/
structure MS (r : Keyed → Int) (o as bs t : List Keyed) : Prop where
  perm : (o ++ (as ++ bs)).Perm t
  so : Asc r o
  sa : Asc r as
  sb : Asc r bs
  oa : AllLe r o as
  ob : AllLe r o bs

theorem MS.stepA {o p q bs t : List Keyed} (h : MS r o (p ++ q) bs t) (hp : AllLe r p bs) : MS r (o ++ p) q bs t := by
  obtain ⟨h1, h2, h3, h4, h5, h6⟩ := h
  obtain ⟨a1, a2, a3⟩ := asc_append.mp h3
  obtain ⟨b1, b2⟩ := h5.right
  exact ⟨by simpa using h1, asc_append.mpr ⟨h2, a1, b1⟩, a2, h4, b2.append_left a3, h6.append_left hp⟩
theorem MS.swap {o as bs t : List Keyed} (h : MS r o as bs t) : MS r o bs as t := ⟨((List.Perm.refl o).append List.perm_append_comm).trans h.perm, h.so, h.sb, h.sa, h.ob, h.oa⟩
theorem MS.stepB {o as p q t : List Keyed} (h : MS r o as (p ++ q) t) (hp : AllLe r p as) : MS r (o ++ p) as q t := (h.swap.stepA hp).swap
theorem MS.fin {o as bs t : List Keyed} (h : MS r o as bs t) (hab : AllLe r as bs) : (o ++ as ++ bs).Perm t ∧ Asc r (o ++ as ++ bs) := by
  refine ⟨by simpa using h.perm, asc_append.mpr ⟨asc_append.mpr ⟨h.so, h.sa, h.oa⟩, h.sb, h.ob.append_left hab⟩⟩

/-- from the far end: what is left, what is out -/
structure MH (r : Keyed → Int) (as bs o t : List Keyed) : Prop where
  perm : (as ++ (bs ++ o)).Perm t
  so : Asc r o
  sa : Asc r as
  sb : Asc r bs
  oa : AllLe r as o
  ob : AllLe r bs o
theorem MH.swap {o as bs t : List Keyed} (h : MH r as bs o t) : MH r bs as o t :=
  ⟨by have := h.perm; rw [← List.append_assoc] at this ⊢; exact (List.Perm.append List.perm_append_comm (List.Perm.refl o)).trans this, h.so, h.sb, h.sa, h.ob, h.oa⟩
theorem MH.stepB {o p q as t : List Keyed} (h : MH r as (p ++ q) o t) (hq : AllLe r as q) : MH r as p (q ++ o) t := by
  obtain ⟨h1, h2, h3, h4, h5, h6⟩ := h
  obtain ⟨a1, a2, a3⟩ := asc_append.mp h4
  obtain ⟨b1, b2⟩ := h6.left
  exact ⟨by simpa using h1, asc_append.mpr ⟨a2, h2, b2⟩, h3, a1, hq.append_right h5, a3.append_right b1⟩
theorem MH.stepA {o p q bs t : List Keyed} (h : MH r (p ++ q) bs o t) (hq : AllLe r bs q) : MH r p bs (q ++ o) t := (h.swap.stepB hq).swap
theorem MH.fin {o as bs t : List Keyed} (h : MH r as bs o t) (hab : AllLe r as bs) : (as ++ bs ++ o).Perm t ∧ Asc r (as ++ bs ++ o) :=
  ⟨by simpa using h.perm, asc_append.mpr ⟨asc_append.mpr ⟨h.sa, h.sb, hab⟩, h.so, h.oa.append_left h.ob⟩⟩

/-- the item at a place -/
def F (a : Array Keyed) (i : Nat) : Keyed := (a[i]?).getD (.none, .none)
theorem F_at {a : Array Keyed} {i : Nat} (h : i < a.size) : a[i]? = some (F a i) := by unfold F; simp [h]
theorem F_mem {a : Array Keyed} {i : Nat} (h : i < a.size) : F a i ∈ a.toList := by
  have : F a i = a[i] := by unfold F; simp [h]
  rw [this]; simp
def SrtA (r : Keyed → Int) (a : Array Keyed) : Prop := ∀ i j, i ≤ j → j < a.size → r (F a i) ≤ r (F a j)
theorem mem_drop {a : Array Keyed} {i : Nat} {y : Keyed} (h : y ∈ a.toList.drop i) : ∃ j, i ≤ j ∧ j < a.size ∧ y = F a j := by
  obtain ⟨n, hn, rfl⟩ := List.getElem_of_mem h
  rw [List.length_drop, Array.length_toList] at hn
  refine ⟨i + n, by omega, by omega, ?_⟩
  unfold F; simp [List.getElem_drop, show i + n < a.size by omega]
theorem mem_take {a : Array Keyed} {i : Nat} {y : Keyed} (h : y ∈ a.toList.take i) : ∃ j, j < i ∧ j < a.size ∧ y = F a j := by
  obtain ⟨n, hn, rfl⟩ := List.getElem_of_mem h
  rw [List.length_take, Array.length_toList] at hn
  refine ⟨n, by omega, by omega, ?_⟩
  unfold F; simp [List.getElem_take, show n < a.size by omega]
theorem mem_extract {a : Array Keyed} {i j : Nat} {y : Keyed} (h : y ∈ (a.extract i j).toList) : ∃ n, i ≤ n ∧ n < j ∧ n < a.size ∧ y = F a n := by
  obtain ⟨n, hn, rfl⟩ := List.getElem_of_mem h
  rw [Array.length_toList, Array.size_extract] at hn
  refine ⟨i + n, by omega, by omega, by omega, ?_⟩
  unfold F; simp [show i + n < a.size by omega]
theorem asc_drop {a : Array Keyed} (h : SrtA r a) : Asc r a.toList := by
  unfold Asc
  rw [List.pairwise_iff_getElem]
  intro i j hi hj hij
  have := h i j (Nat.le_of_lt hij) (by simpa using hj)
  unfold F at this
  simp at hi hj
  simpa [hi, hj, Le] using this
theorem srtA_of {a : Array Keyed} (h : Asc r a.toList) : SrtA r a := by
  intro i j hij hj
  rcases Nat.lt_or_eq_of_le hij with q | q
  · have := (List.pairwise_iff_getElem.mp h) i j (by simp; omega) (by simpa using hj) q
    unfold F
    simpa [hj, show i < a.size by omega, Le] using this
  · subst q; exact Int.le_refl _
theorem drop_cons {a : Array Keyed} {i : Nat} (h : i < a.size) : a.toList.drop i = [F a i] ++ a.toList.drop (i + 1) := by
  rw [List.drop_eq_getElem_cons (by simpa using h)]
  unfold F; simp [h]
theorem take_snoc {a : Array Keyed} {i : Nat} (h : i < a.size) : a.toList.take (i + 1) = a.toList.take i ++ [F a i] := by
  rw [List.take_add_one]
  unfold F; simp [h]
theorem drop_extract {a : Array Keyed} {i k : Nat} : a.toList.drop i = (a.extract i (i + k)).toList ++ a.toList.drop (i + k) := by
  rw [Array.toList_extract]
  simp only [List.extract_eq_take_drop]
  rw [show i + k - i = k by omega, ← List.drop_drop, List.take_append_drop]
theorem take_extract {a : Array Keyed} {i k : Nat} (h : i ≤ k) : a.toList.take k = a.toList.take i ++ (a.extract i k).toList := by
  rw [Array.toList_extract]
  simp only [List.extract_eq_take_drop]
  have : k = i + (k - i) := by omega
  conv => lhs; rw [this, List.take_add]
theorem extract_drop {a : Array Keyed} {i : Nat} : (a.extract i a.size).toList = a.toList.drop i := by
  rw [Array.toList_extract]
  simp only [List.extract_eq_take_drop]
  rw [List.take_of_length_le (by simp)]
theorem extract_take {a : Array Keyed} {i : Nat} : (a.extract 0 i).toList = a.toList.take i := by
  rw [Array.toList_extract]
  simp [List.extract_eq_take_drop]
end
end Mine
end

/-! # MT3 -/
section
set_option autoImplicit false
set_option maxRecDepth 100000
namespace Mine
open PySem PyProof.Rows

/-- the sort's state, its gallop apart -/
structure Kst (st st' : SortSt) : Prop where
  kind : kindOf st' = kindOf st
  arr : arrOf st' = arrOf st
  pend : pendingOf st' = pendingOf st
  failed : failedOf st' = failedOf st
theorem Kst.refl (st : SortSt) : Kst st st := ⟨rfl, rfl, rfl, rfl⟩
theorem Kst.trans {a b c : SortSt} (x : Kst a b) (y : Kst b c) : Kst a c := ⟨y.kind.trans x.kind, y.arr.trans x.arr, y.pend.trans x.pend, y.failed.trans x.failed⟩

section
variable {prog : Program} {w : World} {A : Around} {E : Value → Shared → Prop} {s : Shared} {kd : SortKind} {Dm : Keyed → Prop} {r : Keyed → Int}

def Merged (r : Keyed → Int) (a b res : Array Keyed) : Prop := res.toList.Perm (a.toList ++ b.toList) ∧ Asc r res.toList

def setMinGallop' : Nat → SM Unit := sortPriv% PySem.Builtin.setMinGallop
theorem wpS_setGallop {g : Nat} {Q : Unit → SortSt → Prop} {st : SortSt} (h : ∀ st', Kst st st' → Q () st') : wpS (model prog w) A E s (setMinGallop' g) Q st :=
  wpS_modify (h _ ⟨rfl, rfl, rfl, rfl⟩)

structure Lo (r : Keyed → Int) (a b out : Array Keyed) (ia ib : Nat) : Prop where
  ms : MS r out.toList (a.toList.drop ia) (b.toList.drop ib) (a.toList ++ b.toList)
  ia : ia + 1 ≤ a.size
  ib : ib ≤ b.size

section plain
variable {a b out : Array Keyed} {ia ib : Nat}
theorem Lo.pushB (h : Lo r a b out ia ib) (hb : ib < b.size) (hsa : SrtA r a) (hlt : r (F b ib) ≤ r (F a ia)) : Lo r a b (out.push (F b ib)) ia (ib + 1) := by
  obtain ⟨ms, h1, h2⟩ := h
  rw [drop_cons hb] at ms
  refine ⟨?_, h1, hb⟩
  rw [Array.toList_push]
  refine ms.stepB fun x hx y hy => ?_
  rw [List.mem_singleton] at hx
  obtain ⟨j, q1, q2, rfl⟩ := mem_drop hy
  rw [hx]
  exact Int.le_trans hlt (hsa ia j q1 q2)
theorem Lo.pushA (h : Lo r a b out ia ib) (ha : ia + 2 ≤ a.size) (hle : ∀ i, ib ≤ i → i < b.size → r (F a ia) ≤ r (F b i)) : Lo r a b (out.push (F a ia)) (ia + 1) ib := by
  obtain ⟨ms, h1, h2⟩ := h
  rw [drop_cons h1] at ms
  refine ⟨?_, ha, h2⟩
  rw [Array.toList_push]
  refine ms.stepA fun x hx y hy => ?_
  rw [List.mem_singleton] at hx
  obtain ⟨j, q1, q2, rfl⟩ := mem_drop hy
  rw [hx]; exact hle j q1 q2
theorem Lo.blockA {k : Nat} (h : Lo r a b out ia ib) (hk : ia + k < a.size) (hle : ∀ i, i < k → ∀ j, ib ≤ j → j < b.size → r (F a (ia + i)) ≤ r (F b j)) : Lo r a b (out ++ a.extract ia (ia + k)) (ia + k) ib := by
  obtain ⟨ms, h1, h2⟩ := h
  rw [drop_extract (k := k)] at ms
  refine ⟨?_, hk, h2⟩
  rw [Array.toList_append]
  refine ms.stepA fun x hx y hy => ?_
  obtain ⟨n, q1, q2, q3, rfl⟩ := mem_extract hx
  obtain ⟨j, q4, q5, rfl⟩ := mem_drop hy
  have := hle (n - ia) (by omega) j q4 q5
  rwa [show ia + (n - ia) = n by omega] at this
theorem Lo.blockB {k : Nat} (h : Lo r a b out ia ib) (hk : ib + k ≤ b.size) (hsa : SrtA r a) (hle : ∀ i, i < k → r (F b (ib + i)) ≤ r (F a ia)) : Lo r a b (out ++ b.extract ib (ib + k)) ia (ib + k) := by
  obtain ⟨ms, h1, h2⟩ := h
  rw [drop_extract (a := b) (k := k)] at ms
  refine ⟨?_, h1, hk⟩
  rw [Array.toList_append]
  refine ms.stepB fun x hx y hy => ?_
  obtain ⟨n, q1, q2, q3, rfl⟩ := mem_extract hx
  obtain ⟨j, q4, q5, rfl⟩ := mem_drop hy
  have := hle (n - ib) (by omega)
  rw [show ib + (n - ib) = n by omega] at this
  exact Int.le_trans this (hsa ia j q4 q5)
theorem Lo.done (h : Lo r a b out ia ib) (hb : ib = b.size) : Merged r a b (out ++ a.extract ia a.size ++ b.extract ib b.size) := by
  unfold Merged
  rw [Array.toList_append, Array.toList_append, extract_drop, extract_drop]
  refine h.ms.fin fun x _ y hy => ?_
  obtain ⟨j, q1, q2, _⟩ := mem_drop hy
  omega
theorem Lo.last (h : Lo r a b out ia ib) (ha : ia + 1 = a.size) (hl : ∀ i, i < b.size → r (F b i) ≤ r (F a (a.size - 1))) : Merged r a b (out ++ b.extract ib b.size ++ a.extract ia a.size) := by
  unfold Merged
  rw [Array.toList_append, Array.toList_append, extract_drop, extract_drop]
  refine h.ms.swap.fin fun x hx y hy => ?_
  obtain ⟨i, q3, q4, rfl⟩ := mem_drop hx
  obtain ⟨j, q1, q2, rfl⟩ := mem_drop hy
  rw [show j = a.size - 1 by omega]; exact hl i q4
end plain

theorem wpS_mergeLo (hR : Ranks prog w A E s kd Dm r) {a b : Array Keyed} {Q : Array Keyed → SortSt → Prop} {st : SortSt} (hk : kindOf st = kd) (da : ∀ x ∈ a.toList, Dm x) (db : ∀ x ∈ b.toList, Dm x) (hsa : SrtA r a) (hsb : SrtA r b)
    (ha : 0 < a.size) (hb : 0 < b.size) (h0 : r (F b 0) ≤ r (F a 0)) (hl : ∀ i, i < b.size → r (F b i) < r (F a (a.size - 1)))
    (hQ : ∀ res st', Kst st st' → Merged r a b res → Q res st') : wpS (model prog w) A E s (mergeLo' a b) Q st := by
  refine wpS_bind (wpS_lift (wpAny_rule ⟨rfl, ?_⟩))
  dsimp only
  refine wpS_bind (wpS_elem (F_at hb) ?_)
  have I0 : Lo r a b #[F b 0] 0 1 := by
    have : Lo r a b #[] 0 0 := ⟨⟨by simp, .nil, asc_drop hsa, asc_drop hsb, fun _ h => by simp at h, fun _ h => by simp at h⟩, ha, Nat.zero_le _⟩
    exact this.pushB hb hsa h0
  by_cases e1 : 1 = b.size
  · rw [if_pos (by simp [e1])]
    exact wpS_pure (hQ _ _ (Kst.refl _) (I0.done e1))
  rw [if_neg (by simp [e1])]
  by_cases e2 : 1 = a.size
  · rw [if_pos (by simp [e2])]
    exact wpS_pure (hQ _ _ (Kst.refl _) (I0.last e2 fun i hi => Int.le_of_lt (hl i hi)))
  rw [if_neg (by simp [e2])]
  refine wpS_bind (wpS_get ?_)
  refine wpS_bind (wpS_mono (wpS_forRange (I := fun x c st' => Kst st st' ∧ ∃ out ia ib mg, c = (none, out, ia, ib, mg) ∧ Lo r a b out ia ib ∧ ia + 1 < a.size ∧ ib < b.size ∧ x < ia + ib)
    (Q := fun c st' => Kst st st' ∧ ∃ res, c.1 = some res ∧ Merged r a b res) ?step ?fin ⟨Kst.refl _, _, _, _, _, rfl, I0, by omega, by omega, by omega⟩) ?post)
  case fin =>
    rintro c st' ⟨_, out, ia, ib, mg, rfl, _, h1, h2, h3⟩
    omega
  case post =>
    rintro c st' ⟨k, res, e, hm⟩
    rw [e]
    exact wpS_pure (hQ _ _ k hm)
  case step =>
    rintro x c st' _ hx ⟨ks, out, ia, ib, mg, rfl, L, h1, h2, h3⟩
    dsimp only
    refine wpS_bind (wpS_mono (wpS_forRange (I := fun _ c st'' => Kst st st'' ∧ ∃ out ia ib ac bc, c = (none, out, ia, ib, ac, bc) ∧ Lo r a b out ia ib ∧ ia + 1 < a.size ∧ ib < b.size ∧ x < ia + ib)
      (Q := fun c st'' => Kst st st'' ∧ ((∃ res, c.1 = some res ∧ Merged r a b res) ∨ ∃ out ia ib ac bc, c = (none, out, ia, ib, ac, bc) ∧ Lo r a b out ia ib ∧ ia + 1 < a.size ∧ ib < b.size ∧ x < ia + ib)) ?step1 ?fin1 ⟨ks, _, _, _, _, _, rfl, L, h1, h2, h3⟩) ?post1)
    case fin1 =>
      rintro c st'' ⟨k1, h⟩
      exact ⟨k1, .inr h⟩
    case step1 =>
      rintro y c st'' _ hy ⟨k1, out, ia, ib, ac, bc, rfl, L, h1, h2, h3⟩
      dsimp only
      refine wpS_bind (wpS_elem (F_at h2) ?_)
      refine wpS_bind (wpS_elem (F_at (Nat.lt_of_succ_lt h1)) ?_)
      refine wpS_bind (hR _ _ _ _ (k1.kind.trans hk) (db _ (F_mem h2)) (da _ (F_mem (Nat.lt_of_succ_lt h1))) ?_)
      dsimp only
      by_cases hlt : r (F b ib) < r (F a ia)
      · rw [if_pos (by simp [hlt])]
        have L' := L.pushB h2 hsa (Int.le_of_lt hlt)
        refine wpS_bind (wpS_elem (F_at h2) ?_)
        by_cases e : ib + 1 = b.size
        · rw [if_pos (by simp [e])]
          exact wpS_pure ⟨k1, .inl ⟨_, rfl, L'.done e⟩⟩
        · rw [if_neg (by simp [e])]
          split
          · exact wpS_pure ⟨k1, .inr ⟨_, _, _, _, _, rfl, L', h1, by omega, by omega⟩⟩
          · exact wpS_pure ⟨k1, _, _, _, _, _, rfl, L', h1, by omega, by omega⟩
      · rw [if_neg (by simp [hlt])]
        have L' := L.pushA h1 fun i q1 q2 => Int.le_trans (Int.not_lt.mp hlt) (hsb ib i q1 q2)
        refine wpS_bind (wpS_elem (F_at (Nat.lt_of_succ_lt h1)) ?_)
        by_cases e : ia + 1 + 1 = a.size
        · rw [if_pos (by simp [e])]
          exact wpS_pure ⟨k1, .inl ⟨_, rfl, L'.last e fun i hi => Int.le_of_lt (hl i hi)⟩⟩
        · rw [if_neg (by simp [e])]
          split
          · exact wpS_pure ⟨k1, .inr ⟨_, _, _, _, _, rfl, L', by omega, h2, by omega⟩⟩
          · exact wpS_pure ⟨k1, _, _, _, _, _, rfl, L', by omega, h2, by omega⟩
    case post1 =>
      rintro c st'' ⟨k1, ⟨res, e, hm⟩ | ⟨out, ia, ib, ac, bc, rfl, L, h1, h2, h3⟩⟩
      · rw [e]
        exact wpS_pure ⟨k1, res, rfl, hm⟩
      · dsimp only
        refine wpS_bind (wpS_lift (wpAny_rule ⟨rfl, ?_⟩))
        refine wpS_bind (wpS_mono (wpS_forRange (I := fun y c st'' => Kst st st'' ∧ ∃ out ia ib mg ac bc, c = (none, out, ia, ib, mg, ac, bc) ∧ Lo r a b out ia ib ∧ ia + 1 < a.size ∧ ib < b.size ∧ x < ia + ib ∧ (0 < y → x + 1 < ia + ib))
          (Q := fun c st'' => Kst st st'' ∧ ((∃ res, c.1 = some res ∧ Merged r a b res) ∨ ∃ out ia ib mg ac bc, c = (none, out, ia, ib, mg, ac, bc) ∧ Lo r a b out ia ib ∧ ia + 1 < a.size ∧ ib < b.size ∧ x + 1 < ia + ib)) ?step2 ?fin2 ⟨k1, _, _, _, _, _, _, rfl, L, h1, h2, h3, fun h => by omega⟩) ?post2)
        case fin2 =>
          rintro c st'' ⟨k2, out, ia, ib, mg, ac, bc, e, L, h1, h2, h3, h4⟩
          exact ⟨k2, .inr ⟨out, ia, ib, mg, ac, bc, e, L, h1, h2, h4 (by omega)⟩⟩
        case post2 =>
          rintro c st'' ⟨k2, ⟨res, e, hm⟩ | ⟨out, ia, ib, mg, ac, bc, rfl, L, h1, h2, h3⟩⟩
          · rw [e]
            exact wpS_pure ⟨k2, res, rfl, hm⟩
          · dsimp only
            refine wpS_bind (wpS_setGallop fun st3 k3 => ?_)
            exact wpS_pure ⟨k2.trans k3, _, _, _, _, rfl, L, h1, h2, h3⟩
        case step2 =>
          rintro y c st'' _ hy ⟨k2, out, ia, ib, mg, ac, bc, rfl, L, h1, h2, h3, h4⟩
          dsimp only
          revert mg
          refine wpS_iteR1 (fun mg => ?_) fun g hT => hT (g - 1)
          refine wpS_bind (wpS_setGallop fun st3 k3 => ?_)
          have k4 := k2.trans k3
          refine wpS_bind (wpS_elem (F_at h2) ?_)
          refine wpS_bind (wpS_gallop hR (k4.kind.trans hk) (db _ (F_mem h2)) (f := fun i => F a (ia + i)) (fun i hi => ⟨F_at (by omega), da _ (F_mem (by omega))⟩) (fun i j hij hj => hsa _ _ (by omega) (by omega)) (by omega) fun k hkn hlo hhi => ?_)
          dsimp only
          have pk : Lo r a b out ia ib ∧ ia + 1 < a.size ∧ x < ia + ib ∧ (∀ n, n < k → r (F a (ia + n)) ≤ r (F b ib)) ∧ k < a.size - ia ∧ r (F b ib) < r (F a (ia + k)) := by
            have A1 : ∀ i, i < k → r (F a (ia + i)) ≤ r (F b ib) := fun i hi => by have := hlo i hi; simp [bey] at this; omega
            have hkl : k < a.size - ia := by
              refine Nat.lt_of_not_le fun q => ?_
              have h1 := A1 (a.size - 1 - ia) (by omega)
              rw [show ia + (a.size - 1 - ia) = a.size - 1 by omega] at h1
              have := hl ib h2; omega
            have A2 : r (F b ib) < r (F a (ia + k)) := by have := hhi k (Nat.le_refl _) hkl; simp [bey] at this; omega
            exact ⟨L, h1, h3, A1, hkl, A2⟩
          clear L h1 h3 h4 hkn hlo hhi
          revert pk
          revert out ia
          refine wpS_iteR2 (fun o i => Lo r a b o i ib ∧ i + 1 < a.size ∧ x < i + ib ∧ r (F b ib) < r (F a i)) ?jp ?go ?stay
          case stay =>
            rintro out ia ⟨L, h1, h3, A1, hkl, A2⟩ hk0
            have e : k = 0 := by omega
            rw [e] at A2
            exact ⟨L, h1, h3, A2⟩
          case go =>
            rintro out ia ⟨L, h1, h3, A1, hkl, A2⟩ hk0 hT
            have L1 := L.blockA (k := k) (by omega) fun i hi j q1 q2 => Int.le_trans (A1 i hi) (hsb ib j q1 q2)
            by_cases e : ia + k + 1 = a.size
            · rw [if_pos (by simp [e])]
              exact wpS_pure ⟨k4, .inl ⟨_, rfl, L1.last e fun i hi => Int.le_of_lt (hl i hi)⟩⟩
            · rw [if_neg (by simp [e]), if_neg (by simp; omega)]
              exact hT _ _ ⟨L1, by omega, by omega, A2⟩
          case jp =>
            rintro o i ⟨L1, B1, B2, A3⟩
            refine wpS_bind (wpS_elem (F_at h2) ?_)
            have L2 := L1.pushB h2 hsa (Int.le_of_lt A3)
            generalize o.push (F b ib) = o2 at L2 ⊢
            have B3 : x + 1 < i + (ib + 1) := by omega
            have h5 : ib + 1 ≤ b.size := h2
            generalize ib + 1 = j2 at L2 B3 h5 ⊢
            by_cases e3 : j2 = b.size
            · rw [if_pos (by simp [e3])]
              exact wpS_pure ⟨k4, .inl ⟨_, rfl, L2.done e3⟩⟩
            rw [if_neg (by simp [e3])]
            refine wpS_bind (wpS_elem (F_at (show i < a.size by omega)) ?_)
            refine wpS_bind (wpS_gallop hR (k4.kind.trans hk) (da _ (F_mem (by omega))) (f := fun n => F b (j2 + n)) (fun n hi => ⟨F_at (by omega), db _ (F_mem (by omega))⟩) (fun i j hij hj => hsb _ _ (by omega) (by omega)) (by omega) fun m hmn hlo2 hhi2 => ?_)
            dsimp only
            have pk : Lo r a b o2 i j2 ∧ j2 < b.size ∧ x + 1 < i + j2 ∧ m ≤ b.size - j2 ∧ (∀ n, n < m → r (F b (j2 + n)) ≤ r (F a i)) ∧ ∀ n, j2 + m ≤ n → n < b.size → r (F a i) ≤ r (F b n) := by
              refine ⟨L2, by omega, B3, hmn, fun n hi => by have := hlo2 n hi; simp [bey] at this; omega, fun n q1 q2 => ?_⟩
              have := hhi2 (n - j2) (by omega) (by omega)
              rw [show j2 + (n - j2) = n by omega] at this
              simp [bey] at this; omega
            clear L2 B3 h5 e3 hmn hlo2 hhi2
            revert pk
            revert o2 j2
            refine wpS_iteR2 (fun o' j => Lo r a b o' i j ∧ j < b.size ∧ x + 1 < i + j ∧ ∀ n, j ≤ n → n < b.size → r (F a i) ≤ r (F b n)) ?kp ?go2 ?stay2
            case stay2 =>
              rintro o2 j2 ⟨L2, D1, D2, D3, C1, C2⟩ hm0
              have e : m = 0 := by omega
              rw [e] at C2
              exact ⟨L2, D1, D2, C2⟩
            case go2 =>
              rintro o2 j2 ⟨L2, D1, D2, D3, C1, C2⟩ hm0 hT
              have L3 := L2.blockB (k := m) (by omega) hsa C1
              by_cases e4 : j2 + m = b.size
              · rw [if_pos (by simp [e4])]
                exact wpS_pure ⟨k4, .inl ⟨_, rfl, L3.done e4⟩⟩
              · rw [if_neg (by simp [e4])]
                exact hT _ _ ⟨L3, by omega, by omega, C2⟩
            case kp =>
              rintro o' j ⟨L3, D1, D2, C3⟩
              refine wpS_bind (wpS_elem (F_at (show i < a.size by omega)) ?_)
              have L4 := L3.pushA (by omega) C3
              by_cases e5 : i + 1 + 1 = a.size
              · rw [if_pos (by simp [e5])]
                exact wpS_pure ⟨k4, .inl ⟨_, rfl, L4.last e5 fun i hi => Int.le_of_lt (hl i hi)⟩⟩
              · rw [if_neg (by simp [e5])]
                split
                · exact wpS_pure ⟨k4, .inr ⟨_, _, _, _, _, _, rfl, L4, by omega, by omega, by omega⟩⟩
                · exact wpS_pure ⟨k4, _, _, _, _, _, _, rfl, L4, by omega, by omega, by omega, fun _ => by omega⟩
end
end Mine
end

/-! # MT4 -/
section
set_option autoImplicit false
set_option maxRecDepth 100000
namespace Mine
open PySem PyProof.Rows

section
variable {prog : Program} {w : World} {A : Around} {E : Value → Shared → Prop} {s : Shared} {kd : SortKind} {Dm : Keyed → Prop} {r : Keyed → Int}

structure Hi (r : Keyed → Int) (a b out : Array Keyed) (na nb : Nat) : Prop where
  ms : MH r (a.toList.take na) (b.toList.take nb) out.reverse.toList (a.toList ++ b.toList)
  na : na ≤ a.size
  nb : nb ≤ b.size

section plain
variable {a b out : Array Keyed} {na nb : Nat}
theorem Hi.pushA (h : Hi r a b out (na + 1) nb) (hsb : SrtA r b) (hle : nb = 0 ∨ r (F b (nb - 1)) ≤ r (F a na)) : Hi r a b (out.push (F a na)) na nb := by
  obtain ⟨ms, h1, h2⟩ := h
  rw [take_snoc h1] at ms
  refine ⟨?_, by lia, h2⟩
  rw [show (out.push (F a na)).reverse.toList = [F a na] ++ out.reverse.toList by simp]
  refine ms.stepA fun x hx y hy => ?_
  rw [List.mem_singleton] at hy
  obtain ⟨j, q1, q2, rfl⟩ := mem_take hx
  rw [hy]
  rcases hle with q | q
  · lia
  · exact Int.le_trans (hsb j (nb - 1) (by lia) (by lia)) q
theorem Hi.pushB (h : Hi r a b out na (nb + 1)) (hle : ∀ i, i < na → r (F a i) ≤ r (F b nb)) : Hi r a b (out.push (F b nb)) na nb := by
  obtain ⟨ms, h1, h2⟩ := h
  rw [take_snoc h2] at ms
  refine ⟨?_, h1, by lia⟩
  rw [show (out.push (F b nb)).reverse.toList = [F b nb] ++ out.reverse.toList by simp]
  refine ms.stepB fun x hx y hy => ?_
  rw [List.mem_singleton] at hy
  obtain ⟨j, q1, q2, rfl⟩ := mem_take hx
  rw [hy]; exact hle j q1
theorem Hi.blockA {k : Nat} (h : Hi r a b out na nb) (hk : k ≤ na) (hle : ∀ i, k ≤ i → i < na → ∀ j, j < nb → r (F b j) ≤ r (F a i)) : Hi r a b (out ++ (a.extract k na).reverse) k nb := by
  obtain ⟨ms, h1, h2⟩ := h
  rw [take_extract hk] at ms
  refine ⟨?_, by lia, h2⟩
  rw [show (out ++ (a.extract k na).reverse).reverse.toList = (a.extract k na).toList ++ out.reverse.toList by simp]
  refine ms.stepA fun x hx y hy => ?_
  obtain ⟨n, q1, q2, q3, rfl⟩ := mem_extract hy
  obtain ⟨j, q4, q5, rfl⟩ := mem_take hx
  exact hle n q1 q2 j q4
theorem Hi.blockB {k : Nat} (h : Hi r a b out na nb) (hk : k ≤ nb) (hle : ∀ i, k ≤ i → i < nb → ∀ j, j < na → r (F a j) ≤ r (F b i)) : Hi r a b (out ++ (b.extract k nb).reverse) na k := by
  obtain ⟨ms, h1, h2⟩ := h
  rw [take_extract (a := b) hk] at ms
  refine ⟨?_, h1, by lia⟩
  rw [show (out ++ (b.extract k nb).reverse).reverse.toList = (b.extract k nb).toList ++ out.reverse.toList by simp]
  refine ms.stepB fun x hx y hy => ?_
  obtain ⟨n, q1, q2, q3, rfl⟩ := mem_extract hy
  obtain ⟨j, q4, q5, rfl⟩ := mem_take hx
  exact hle n q1 q2 j q4
theorem Hi.done (h : Hi r a b out na nb) (hb : na = 0) : Merged r a b (a.extract 0 na ++ b.extract 0 nb ++ out.reverse) := by
  unfold Merged
  rw [Array.toList_append, Array.toList_append, extract_take, extract_take]
  refine h.ms.fin fun x hx y _ => ?_
  obtain ⟨j, q1, q2, _⟩ := mem_take hx
  lia
theorem Hi.first (h : Hi r a b out na nb) (hb : nb = 1) (hf : ∀ i, i < a.size → r (F b 0) < r (F a i)) : Merged r a b (b.extract 0 nb ++ a.extract 0 na ++ out.reverse) := by
  unfold Merged
  rw [Array.toList_append, Array.toList_append, extract_take, extract_take]
  refine h.ms.swap.fin fun x hx y hy => ?_
  obtain ⟨i, q3, q4, rfl⟩ := mem_take hx
  obtain ⟨j, q1, q2, rfl⟩ := mem_take hy
  rw [show i = 0 by lia]; exact Int.le_of_lt (hf j q2)
end plain

set_option maxHeartbeats 400000 in
theorem wpS_mergeHi (hR : Ranks prog w A E s kd Dm r) {a b : Array Keyed} {Q : Array Keyed → SortSt → Prop} {st : SortSt} (hk : kindOf st = kd) (da : ∀ x ∈ a.toList, Dm x) (db : ∀ x ∈ b.toList, Dm x) (hsa : SrtA r a) (hsb : SrtA r b)
    (ha : 0 < a.size) (hb : 0 < b.size) (hf : ∀ i, i < a.size → r (F b 0) < r (F a i)) (hl : r (F b (b.size - 1)) ≤ r (F a (a.size - 1)))
    (hQ : ∀ res st', Kst st st' → Merged r a b res → Q res st') : wpS (model prog w) A E s (mergeHi' a b) Q st := by
  refine wpS_bind (wpS_lift (wpAny_rule ⟨rfl, ?_⟩))
  dsimp only
  refine wpS_bind (wpS_elem (F_at (show a.size - 1 < a.size by lia)) ?_)
  have I0 : Hi r a b #[F a (a.size - 1)] (a.size - 1) b.size := by
    have : Hi r a b #[] (a.size - 1 + 1) b.size := ⟨⟨by rw [show a.size - 1 + 1 = a.size by lia]; simp [List.take_of_length_le], .nil, by rw [show a.size - 1 + 1 = a.size by lia, List.take_of_length_le (by simp)]; exact asc_drop hsa, by rw [List.take_of_length_le (by simp)]; exact asc_drop hsb, fun _ _ _ h => by simp at h, fun _ _ _ h => by simp at h⟩, by lia, Nat.le_refl _⟩
    exact this.pushA hsb (.inr hl)
  by_cases e1 : a.size - 1 = 0
  · rw [if_pos (by simp [e1])]
    exact wpS_pure (hQ _ _ (Kst.refl _) (I0.done e1))
  rw [if_neg (by simp [e1])]
  by_cases e2 : b.size = 1
  · rw [if_pos (by simp [e2])]
    exact wpS_pure (hQ _ _ (Kst.refl _) (I0.first e2 hf))
  rw [if_neg (by simp [e2])]
  refine wpS_bind (wpS_get ?_)
  refine wpS_bind (wpS_mono (wpS_forRange (I := fun x c st' => Kst st st' ∧ ∃ na nb out mg, c = (none, na, nb, out, mg) ∧ Hi r a b out na nb ∧ 1 ≤ na ∧ 2 ≤ nb ∧ x + na + nb < a.size + b.size)
    (Q := fun c st' => Kst st st' ∧ ∃ res, c.1 = some res ∧ Merged r a b res) ?step ?fin ⟨Kst.refl _, _, _, _, _, rfl, I0, by lia, by lia, by lia⟩) ?post)
  case fin =>
    rintro c st' ⟨_, na, nb, out, mg, rfl, _, h1, h2, h3⟩
    lia
  case post =>
    rintro c st' ⟨k, res, e, hm⟩
    rw [e]
    exact wpS_pure (hQ _ _ k hm)
  case step =>
    rintro x c st' _ hx ⟨ks, na, nb, out, mg, rfl, L, h1, h2, h3⟩
    dsimp only
    refine wpS_bind (wpS_mono (wpS_forRange (I := fun _ c st'' => Kst st st'' ∧ ∃ na nb out ac bc, c = (none, na, nb, out, ac, bc) ∧ Hi r a b out na nb ∧ 1 ≤ na ∧ 2 ≤ nb ∧ x + na + nb < a.size + b.size)
      (Q := fun c st'' => Kst st st'' ∧ ((∃ res, c.1 = some res ∧ Merged r a b res) ∨ ∃ na nb out ac bc, c = (none, na, nb, out, ac, bc) ∧ Hi r a b out na nb ∧ 1 ≤ na ∧ 2 ≤ nb ∧ x + na + nb < a.size + b.size)) ?step1 ?fin1 ⟨ks, _, _, _, _, _, rfl, L, h1, h2, h3⟩) ?post1)
    case fin1 =>
      rintro c st'' ⟨k1, h⟩
      exact ⟨k1, .inr h⟩
    case step1 =>
      rintro y c st'' _ hy ⟨k1, na, nb, out, ac, bc, rfl, L, h1, h2, h3⟩
      dsimp only
      have hna := L.na
      have hnb := L.nb
      refine wpS_bind (wpS_elem (F_at (show nb - 1 < b.size by lia)) ?_)
      refine wpS_bind (wpS_elem (F_at (show na - 1 < a.size by lia)) ?_)
      refine wpS_bind (hR _ _ _ _ (k1.kind.trans hk) (db _ (F_mem (by lia))) (da _ (F_mem (by lia))) ?_)
      dsimp only
      by_cases hlt : r (F b (nb - 1)) < r (F a (na - 1))
      · rw [if_pos (by simp [hlt])]
        have L' := Hi.pushA (na := na - 1) (by rw [show na - 1 + 1 = na by lia]; exact L) hsb (.inr (Int.le_of_lt hlt))
        refine wpS_bind (wpS_elem (F_at (show na - 1 < a.size by lia)) ?_)
        by_cases e : na - 1 = 0
        · rw [if_pos (by simp [e])]
          exact wpS_pure ⟨k1, .inl ⟨_, rfl, L'.done e⟩⟩
        · rw [if_neg (by simp [e])]
          split
          · exact wpS_pure ⟨k1, .inr ⟨_, _, _, _, _, rfl, L', by lia, h2, by lia⟩⟩
          · exact wpS_pure ⟨k1, _, _, _, _, _, rfl, L', by lia, h2, by lia⟩
      · rw [if_neg (by simp [hlt])]
        have L' := Hi.pushB (nb := nb - 1) (by rw [show nb - 1 + 1 = nb by lia]; exact L) fun i hi => Int.le_trans (hsa i (na - 1) (by lia) (by lia)) (Int.not_lt.mp hlt)
        refine wpS_bind (wpS_elem (F_at (show nb - 1 < b.size by lia)) ?_)
        by_cases e : nb - 1 = 1
        · rw [if_pos (by simp [e])]
          exact wpS_pure ⟨k1, .inl ⟨_, rfl, L'.first e hf⟩⟩
        · rw [if_neg (by simp [e])]
          split
          · exact wpS_pure ⟨k1, .inr ⟨_, _, _, _, _, rfl, L', h1, by lia, by lia⟩⟩
          · exact wpS_pure ⟨k1, _, _, _, _, _, rfl, L', h1, by lia, by lia⟩
    case post1 =>
      rintro c st'' ⟨k1, ⟨res, e, hm⟩ | ⟨na, nb, out, ac, bc, rfl, L, h1, h2, h3⟩⟩
      · rw [e]
        exact wpS_pure ⟨k1, res, rfl, hm⟩
      · dsimp only
        refine wpS_bind (wpS_lift (wpAny_rule ⟨rfl, ?_⟩))
        refine wpS_bind (wpS_mono (wpS_forRange (I := fun y c st'' => Kst st st'' ∧ ∃ na nb out mg ac bc, c = (none, na, nb, out, mg, ac, bc) ∧ Hi r a b out na nb ∧ 1 ≤ na ∧ 2 ≤ nb ∧ x + na + nb < a.size + b.size ∧ (0 < y → x + 1 + na + nb < a.size + b.size))
          (Q := fun c st'' => Kst st st'' ∧ ((∃ res, c.1 = some res ∧ Merged r a b res) ∨ ∃ na nb out mg ac bc, c = (none, na, nb, out, mg, ac, bc) ∧ Hi r a b out na nb ∧ 1 ≤ na ∧ 2 ≤ nb ∧ x + 1 + na + nb < a.size + b.size)) ?step2 ?fin2 ⟨k1, _, _, _, _, _, _, rfl, L, h1, h2, h3, fun h => by lia⟩) ?post2)
        case fin2 =>
          rintro c st'' ⟨k2, na, nb, out, mg, ac, bc, e, L, h1, h2, h3, h4⟩
          exact ⟨k2, .inr ⟨na, nb, out, mg, ac, bc, e, L, h1, h2, h4 (by lia)⟩⟩
        case post2 =>
          rintro c st'' ⟨k2, ⟨res, e, hm⟩ | ⟨na, nb, out, mg, ac, bc, rfl, L, h1, h2, h3⟩⟩
          · rw [e]
            exact wpS_pure ⟨k2, res, rfl, hm⟩
          · dsimp only
            refine wpS_bind (wpS_setGallop fun st3 k3 => ?_)
            exact wpS_pure ⟨k2.trans k3, _, _, _, _, rfl, L, h1, h2, h3⟩
        case step2 =>
          rintro y c st'' _ hy ⟨k2, na, nb, out, mg, ac, bc, rfl, L, h1, h2, h3, h4⟩
          dsimp only
          have hna := L.na
          have hnb := L.nb
          revert mg
          refine wpS_iteR1 (fun mg => ?_) fun g hT => hT (g - 1)
          refine wpS_bind (wpS_setGallop fun st3 k3 => ?_)
          have k4 := k2.trans k3
          refine wpS_bind (wpS_elem (F_at (show nb - 1 < b.size by lia)) ?_)
          refine wpS_bind (wpS_gallop hR (k4.kind.trans hk) (db _ (F_mem (by lia))) (f := fun i => F a i) (fun i hi => ⟨by rw [Nat.zero_add]; exact F_at (by lia), da _ (F_mem (by lia))⟩) (fun i j hij hj => hsa _ _ hij (by lia)) (by lia) fun k hkn hlo hhi => ?_)
          dsimp only
          have pk : Hi r a b out na nb ∧ k ≤ na ∧ x + na + nb < a.size + b.size ∧ (∀ i, i < k → r (F a i) ≤ r (F b (nb - 1))) ∧ (∀ i, k ≤ i → i < na → r (F b (nb - 1)) < r (F a i)) ∧ 1 ≤ na :=
            ⟨L, hkn, h3, fun i hi => by have := hlo i hi; simp [bey] at this; lia, fun i q1 q2 => by have := hhi i q1 q2; simp [bey] at this; lia, h1⟩
          clear L h1 h3 h4 hkn hlo hhi hna
          generalize hac : na - k = ac2
          replace pk := And.intro pk hac
          clear hac
          revert pk
          revert out
          revert na
          refine wpS_iteR2 (fun i o => Hi r a b o i nb ∧ 1 ≤ i ∧ x + i + nb < a.size + b.size ∧ ∀ n, n < i → r (F a n) ≤ r (F b (nb - 1))) ?jp ?go ?stay
          case stay =>
            rintro na out ⟨⟨L, hkn, h3, A1, A2, h1⟩, hac⟩ hk0
            have e : k = na := by lia
            rw [e] at A1
            exact ⟨L, h1, h3, A1⟩
          case go =>
            rintro na out ⟨⟨L, hkn, h3, A1, A2, h1⟩, hac⟩ hk0 hT
            have L1 := L.blockA (k := k) hkn fun i q1 q2 j q3 => Int.le_trans (hsb j (nb - 1) (by lia) (by lia)) (Int.le_of_lt (A2 i q1 q2))
            by_cases e : k = 0
            · rw [if_pos (by simp [e])]
              exact wpS_pure ⟨k4, .inl ⟨_, rfl, L1.done e⟩⟩
            · rw [if_neg (by simp [e])]
              exact hT _ _ ⟨L1, by lia, by lia, A1⟩
          case jp =>
            rintro i o ⟨L1, B1, B2, A1⟩
            have hi := L1.na
            have L2 := Hi.pushB (nb := nb - 1) (by rw [show nb - 1 + 1 = nb by lia]; exact L1) A1
            refine wpS_bind (wpS_elem (F_at (show nb - 1 < b.size by lia)) ?_)
            generalize o.push (F b (nb - 1)) = o2 at L2 ⊢
            have B3 : x + 1 + i + (nb - 1) < a.size + b.size ∧ 1 ≤ nb - 1 ∧ nb - 1 ≤ b.size := by lia
            clear A1 L1 B2
            generalize nb - 1 = j2 at L2 B3 ⊢
            by_cases e3 : j2 = 1
            · rw [if_pos (by simp [e3])]
              exact wpS_pure ⟨k4, .inl ⟨_, rfl, L2.first e3 hf⟩⟩
            rw [if_neg (by simp [e3])]
            refine wpS_bind (wpS_elem (F_at (show i - 1 < a.size by lia)) ?_)
            refine wpS_bind (wpS_gallop hR (k4.kind.trans hk) (da _ (F_mem (by lia))) (f := fun i => F b i) (fun i hi => ⟨by rw [Nat.zero_add]; exact F_at (by lia), db _ (F_mem (by lia))⟩) (fun i j hij hj => hsb _ _ hij (by lia)) (by lia) fun m hmn hlo2 hhi2 => ?_)
            dsimp only
            have pk : Hi r a b o2 i j2 ∧ m ≤ j2 ∧ 2 ≤ j2 ∧ x + 1 + i + j2 < a.size + b.size ∧ 1 ≤ m ∧ (∀ n, m ≤ n → n < j2 → r (F a (i - 1)) ≤ r (F b n)) ∧ r (F b (m - 1)) ≤ r (F a (i - 1)) := by
              have C1 : ∀ n, m ≤ n → n < j2 → r (F a (i - 1)) ≤ r (F b n) := fun n q1 q2 => by have := hhi2 n q1 q2; simp [bey] at this; lia
              have hm1 : 1 ≤ m := by
                refine Nat.lt_of_not_le fun q => ?_
                have q1 := C1 0 (by lia) (by lia)
                have q2 := hf (i - 1) (by lia)
                lia
              exact ⟨L2, hmn, by lia, B3.1, hm1, C1, by have := hlo2 (m - 1) (by lia); simp [bey] at this; lia⟩
            clear L2 B3 e3 hmn hlo2 hhi2
            generalize hbc : j2 - m = bc2
            replace pk := And.intro pk hbc
            clear hbc
            revert pk
            revert o2
            revert j2
            refine wpS_iteR2 (fun j o' => Hi r a b o' i j ∧ 2 ≤ j ∧ x + 1 + i + j < a.size + b.size ∧ r (F b (j - 1)) ≤ r (F a (i - 1))) ?kp ?go2 ?stay2
            case stay2 =>
              rintro j2 o2 ⟨⟨L2, hmn, D1, D2, hm1, C1, C3⟩, hbc⟩ hm0
              have e : m = j2 := by lia
              rw [e] at C3
              exact ⟨L2, D1, D2, C3⟩
            case go2 =>
              rintro j2 o2 ⟨⟨L2, hmn, D1, D2, hm1, C1, C3⟩, hbc⟩ hm0 hT
              have L3 := L2.blockB (k := m) hmn fun n q1 q2 j q3 => Int.le_trans (hsa j (i - 1) (by lia) (by lia)) (C1 n q1 q2)
              by_cases e4 : m = 1
              · rw [if_pos (by simp [e4])]
                exact wpS_pure ⟨k4, .inl ⟨_, rfl, L3.first e4 hf⟩⟩
              · rw [if_neg (by simp [e4]), if_neg (by simp; lia)]
                exact hT _ _ ⟨L3, by lia, by lia, C3⟩
            case kp =>
              rintro j o' ⟨L3, D1, D2, C3⟩
              have L4 := Hi.pushA (na := i - 1) (by rw [show i - 1 + 1 = i by lia]; exact L3) hsb (.inr C3)
              refine wpS_bind (wpS_elem (F_at (show i - 1 < a.size by lia)) ?_)
              by_cases e5 : i - 1 = 0
              · rw [if_pos (by simp [e5])]
                exact wpS_pure ⟨k4, .inl ⟨_, rfl, L4.done e5⟩⟩
              · rw [if_neg (by simp [e5])]
                split
                · exact wpS_pure ⟨k4, .inr ⟨_, _, _, _, _, _, rfl, L4, by lia, by lia, by lia⟩⟩
                · exact wpS_pure ⟨k4, _, _, _, _, _, _, rfl, L4, by lia, by lia, by lia, fun _ => by lia⟩
end
end Mine
end

/-! # MT5 -/
section
set_option autoImplicit false
set_option maxRecDepth 100000
namespace Mine
open PySem PyProof.Rows

def SOn (r : Keyed → Int) (xs : Array Keyed) (lo hi : Nat) : Prop := ∀ i j, lo ≤ i → i ≤ j → j < hi → r (F xs i) ≤ r (F xs j)

/-- a stretch written over -/
def putAll (xs : Array Keyed) (base : Nat) (l : List (Keyed × Nat)) : Array Keyed := l.foldl (fun a q => a.setIfInBounds (base + q.2) q.1) xs
theorem putAll_size (base : Nat) : ∀ (l : List (Keyed × Nat)) (xs : Array Keyed), (putAll xs base l).size = xs.size
  | [], _ => rfl
  | q :: l, xs => by
    show (putAll (xs.setIfInBounds (base + q.2) q.1) base l).size = _
    rw [putAll_size base l]; simp
theorem putAll_get (base : Nat) : ∀ (l : List Keyed) (k : Nat) (xs : Array Keyed), base + k + l.length ≤ xs.size → ∀ j, (putAll xs base (l.zipIdx k))[j]? = if base + k ≤ j ∧ j < base + k + l.length then l[j - (base + k)]? else xs[j]?
  | [], k, xs, _, j => by
    show xs[j]? = _
    rw [if_neg (by intro q; simp at q; lia)]
  | x :: l, k, xs, h, j => by
    rw [List.zipIdx_cons]
    show (putAll (xs.setIfInBounds (base + k) x) base (l.zipIdx (k + 1)))[j]? = _
    simp only [List.length_cons] at h
    rw [putAll_get base l (k + 1) _ (by simp; lia)]
    by_cases h1 : j = base + k
    · subst h1
      rw [if_neg (by lia), if_pos (by simp)]
      rw [Array.getElem?_setIfInBounds]
      simp; lia
    · by_cases h2 : base + (k + 1) ≤ j ∧ j < base + (k + 1) + l.length
      · rw [if_pos h2, if_pos (by simp; lia)]
        rw [show j - (base + k) = j - (base + (k + 1)) + 1 by lia, List.getElem?_cons_succ]
      · rw [if_neg h2, if_neg (by simp; lia)]
        rw [Array.getElem?_setIfInBounds, if_neg (by lia)]

theorem F_congr {xs ys : Array Keyed} {i j : Nat} (h : xs[i]? = ys[j]?) : F xs i = F ys j := by unfold F; rw [h]
theorem F_extract {xs : Array Keyed} {lo hi i : Nat} (h : lo + i < hi) (h2 : hi ≤ xs.size) : F (xs.extract lo hi) i = F xs (lo + i) := by
  refine F_congr ?_
  rw [Array.getElem?_extract]
  simp; lia

theorem putAll_list {xs : Array Keyed} {base : Nat} {l : List Keyed} (h : base + l.length ≤ xs.size) : (putAll xs base l.zipIdx).toList = xs.toList.take base ++ (l ++ xs.toList.drop (base + l.length)) := by
  refine List.ext_getElem? fun j => ?_
  rw [Array.getElem?_toList, show l.zipIdx = l.zipIdx 0 from rfl, putAll_get base l 0 xs (by lia)]
  have hl : (xs.toList.take base).length = base := by simp; lia
  by_cases h1 : j < base
  · rw [if_neg (by lia), List.getElem?_append_left (by lia), List.getElem?_take, if_pos h1, Array.getElem?_toList]
  · rw [List.getElem?_append_right (by lia), hl]
    by_cases h2 : j < base + l.length
    · rw [if_pos (by lia), List.getElem?_append_left (by lia)]; rfl
    · rw [if_neg (by lia), List.getElem?_append_right (by lia), List.getElem?_drop, Array.getElem?_toList]
      congr 1; lia

section
variable {prog : Program} {w : World} {A : Around} {E : Value → Shared → Prop} {s : Shared} {kd : SortKind} {Dm : Keyed → Prop} {r : Keyed → Int}

theorem wpS_set {σ : Type} {M : Model} {Q : PUnit → σ → Prop} {st st' : σ} (h : Q ⟨⟩ st') : wpS M A E s (set st' : StateT σ Sem PUnit) Q st := by
  unfold wpS; rw [StateT.run_set]; exact wpAny_pure ⟨rfl, h⟩

theorem perm_merged {xs m : Array Keyed} {lo mid hi : Nat} (h1 : lo ≤ mid) (h2 : mid ≤ hi) (h3 : hi ≤ xs.size) (hp : m.toList.Perm ((xs.extract lo mid).toList ++ (xs.extract mid hi).toList)) :
    m.toList.length = hi - lo ∧ (putAll xs lo m.toList.zipIdx).Perm xs := by
  have hlen : m.toList.length = hi - lo := by
    have := hp.length_eq
    simp only [List.length_append, Array.length_toList, Array.size_extract] at this ⊢
    lia
  refine ⟨hlen, Array.perm_iff_toList_perm.mpr ?_⟩
  rw [putAll_list (by lia), hlen, show lo + (hi - lo) = hi by lia]
  have e : xs.toList = xs.toList.take lo ++ ((xs.extract lo mid).toList ++ (xs.extract mid hi).toList ++ xs.toList.drop hi) := by
    have e1 := drop_extract (a := xs) (i := lo) (k := mid - lo)
    have e2 := drop_extract (a := xs) (i := mid) (k := hi - mid)
    rw [show lo + (mid - lo) = mid by lia] at e1
    rw [show mid + (hi - mid) = hi by lia] at e2
    rw [List.append_assoc, ← e2, ← e1, List.take_append_drop]
  conv => rhs; rw [e]
  exact (List.Perm.refl _).append (hp.append (List.Perm.refl _))

theorem wpS_mergeAt (hR : Ranks prog w A E s kd Dm r) {i sa na p nb p2 : Nat} {Q : Bool → SortSt → Prop} {st : SortSt} (hk : kindOf st = kd) (hfl : failedOf st = none) (hp1 : (pendingOf st)[i]? = some (sa, na, p)) (hp2 : (pendingOf st)[i + 1]? = some (sa + na, nb, p2))
    (hn1 : 0 < na) (hn2 : 0 < nb) (hsz : sa + na + nb ≤ (arrOf st).size) (hD : ∀ x ∈ (arrOf st).toList, Dm x) (s1 : SOn r (arrOf st) sa (sa + na)) (s2 : SOn r (arrOf st) (sa + na) (sa + na + nb))
    (hQ : ∀ st', kindOf st' = kindOf st → failedOf st' = none → pendingOf st' = ((pendingOf st).setIfInBounds i (sa, na + nb, p)).eraseIdxIfInBounds (i + 1) → (arrOf st').Perm (arrOf st) →
      (∀ j, ¬ (sa ≤ j ∧ j < sa + na + nb) → (arrOf st')[j]? = (arrOf st)[j]?) → SOn r (arrOf st') sa (sa + na + nb) → Q true st') : wpS (model prog w) A E s (mergeAt' i) Q st := by
  refine wpS_bind (wpS_get ?_)
  dsimp only
  rw [show (sortPriv% PySem.Builtin.SortState.pending) st = pendingOf st from rfl, hp1, hp2]
  dsimp only
  refine wpS_bind (wpS_set ?_)
  have hkp : ∀ st₁ : SortSt, kindOf st₁ = kindOf st → kindOf st₁ = kd := fun _ h => h.trans hk
  refine wpS_bind (wpS_elem (F_at (show sa + na < (arrOf st).size by lia)) ?_)
  refine wpS_bind (wpS_gallop (arr := arrOf st) hR hk (hD _ (F_mem (by lia))) (f := fun i => F (arrOf st) (sa + i)) (fun i hi => ⟨F_at (by lia), hD _ (F_mem (by lia))⟩) (fun i j hij hj => s1 _ _ (by lia) (by lia) (by lia)) hn1 fun k hkn hlo hhi => ?_)
  dsimp only
  have A1 : ∀ i, i < k → r (F (arrOf st) (sa + i)) ≤ r (F (arrOf st) (sa + na)) := fun i hi => by have := hlo i hi; simp [bey] at this; lia
  have A2 : ∀ i, k ≤ i → i < na → r (F (arrOf st) (sa + na)) < r (F (arrOf st) (sa + i)) := fun i q1 q2 => by have := hhi i q1 q2; simp [bey] at this; lia
  by_cases e1 : na - k = 0
  · rw [if_pos (by simp [e1])]
    refine wpS_pure (hQ _ rfl hfl rfl (Array.Perm.refl _) (fun _ _ => rfl) fun i j q1 q2 q3 => ?_)
    by_cases c1 : j < sa + na
    · exact s1 i j q1 q2 c1
    · by_cases c2 : i < sa + na
      · have h1 := A1 (i - sa) (by lia)
        rw [show sa + (i - sa) = i by lia] at h1
        exact Int.le_trans h1 (s2 _ j (Nat.le_refl _) (by lia) q3)
      · exact s2 i j (by lia) q2 q3
  rw [if_neg (by simp [e1])]
  refine wpS_bind (wpS_elem (F_at (show sa + k + (na - k) - 1 < (arrOf st).size by lia)) ?_)
  rw [show sa + k + (na - k) - 1 = sa + na - 1 by lia]
  refine wpS_bind (wpS_gallop (arr := arrOf st) hR hk (hD _ (F_mem (by lia))) (f := fun i => F (arrOf st) (sa + na + i)) (fun i hi => ⟨F_at (by lia), hD _ (F_mem (by lia))⟩) (fun i j hij hj => s2 _ _ (by lia) (by lia) (by lia)) (by lia) fun m hmn hlo2 hhi2 => ?_)
  dsimp only
  have B1 : ∀ i, i < m → r (F (arrOf st) (sa + na + i)) < r (F (arrOf st) (sa + na - 1)) := fun i hi => by have := hlo2 i hi; simp [bey] at this; lia
  have B2 : ∀ i, m ≤ i → i < nb → r (F (arrOf st) (sa + na - 1)) ≤ r (F (arrOf st) (sa + na + i)) := fun i q1 q2 => by have := hhi2 i q1 q2; simp [bey] at this; lia
  by_cases e2 : m = 0
  · rw [if_pos (by simp [e2])]
    refine wpS_pure (hQ _ rfl hfl rfl (Array.Perm.refl _) (fun _ _ => rfl) fun i j q1 q2 q3 => ?_)
    by_cases c1 : j < sa + na
    · exact s1 i j q1 q2 c1
    · by_cases c2 : i < sa + na
      · have h1 := B2 (j - (sa + na)) (by lia) (by lia)
        rw [show sa + na + (j - (sa + na)) = j by lia] at h1
        exact Int.le_trans (s1 i (sa + na - 1) q1 (by lia) (by lia)) h1
      · exact s2 i j (by lia) q2 q3
  rw [if_neg (by simp [e2])]
  -- the two stretches
  have hx1 : ((arrOf st).extract (sa + k) (sa + na)).size = na - k := by rw [Array.size_extract]; lia
  have hy1 : ((arrOf st).extract (sa + na) (sa + na + m)).size = m := by rw [Array.size_extract]; lia
  have fx : ∀ i, i < na - k → F ((arrOf st).extract (sa + k) (sa + na)) i = F (arrOf st) (sa + k + i) := fun i hi => F_extract (by lia) (by lia)
  have fy : ∀ i, i < m → F ((arrOf st).extract (sa + na) (sa + na + m)) i = F (arrOf st) (sa + na + i) := fun i hi => F_extract (by lia) (by lia)
  have dx : ∀ z ∈ ((arrOf st).extract (sa + k) (sa + na)).toList, Dm z := fun z hz => by obtain ⟨n, _, _, h, rfl⟩ := mem_extract hz; exact hD _ (F_mem h)
  have dy : ∀ z ∈ ((arrOf st).extract (sa + na) (sa + na + m)).toList, Dm z := fun z hz => by obtain ⟨n, _, _, h, rfl⟩ := mem_extract hz; exact hD _ (F_mem h)
  have sx : SrtA r ((arrOf st).extract (sa + k) (sa + na)) := fun i j hij hj => by
    rw [hx1] at hj; rw [fx i (by lia), fx j hj]; exact s1 _ _ (by lia) (by lia) (by lia)
  have sy : SrtA r ((arrOf st).extract (sa + na) (sa + na + m)) := fun i j hij hj => by
    rw [hy1] at hj; rw [fy i (by lia), fy j hj]; exact s2 _ _ (by lia) (by lia) (by lia)
  have fin : ∀ (res : Array Keyed) (st₂ : SortSt), Kst (setPending st (((pendingOf st).setIfInBounds i (sa, na + nb, p)).eraseIdxIfInBounds (i + 1))) st₂ → Merged r ((arrOf st).extract (sa + k) (sa + na)) ((arrOf st).extract (sa + na) (sa + na + m)) res →
      Q true (setArr st₂ (putAll (arrOf st₂) (sa + k) res.toList.zipIdx)) := by
    intro res st₂ k2 hm
    have ha : arrOf st₂ = arrOf st := k2.arr
    obtain ⟨hl, hperm⟩ := perm_merged (xs := arrOf st) (by lia) (by lia) (by lia) hm.1
    have sres := srtA_of hm.2
    have hrs : res.size = na - k + m := by have : res.size = _ := (Array.length_toList (xs := res)).symm.trans hl; lia
    have get : ∀ j, (putAll (arrOf st) (sa + k) res.toList.zipIdx)[j]? = if sa + k ≤ j ∧ j < sa + na + m then res[j - (sa + k)]? else (arrOf st)[j]? := fun j => by
      have := putAll_get (sa + k) res.toList 0 (arrOf st) (by lia) j
      rw [show res.toList.zipIdx = res.toList.zipIdx 0 from rfl, this, hl, Array.getElem?_toList]
      rw [show sa + k + 0 + (sa + na + m - (sa + k)) = sa + na + m by lia]; rfl
    have inM : ∀ j, sa + k ≤ j → j < sa + na + m → F (putAll (arrOf st) (sa + k) res.toList.zipIdx) j = F res (j - (sa + k)) := fun j q1 q2 => F_congr (by rw [get, if_pos ⟨q1, q2⟩])
    have notM : ∀ j, ¬ (sa + k ≤ j ∧ j < sa + na + m) → F (putAll (arrOf st) (sa + k) res.toList.zipIdx) j = F (arrOf st) j := fun j q => F_congr (by rw [get, if_neg q])
    have from_ : ∀ j, j < res.size → ∃ n, sa + k ≤ n ∧ n < sa + na + m ∧ F res j = F (arrOf st) n := fun j hj => by
      have h1 := hm.1.mem_iff.mp (F_mem hj)
      rcases List.mem_append.mp h1 with q | q
      · obtain ⟨n, q1, q2, q3, q4⟩ := mem_extract q; exact ⟨n, q1, by lia, q4⟩
      · obtain ⟨n, q1, q2, q3, q4⟩ := mem_extract q; exact ⟨n, by lia, by lia, q4⟩
    refine hQ _ k2.kind (k2.failed.trans hfl) k2.pend (by show (putAll (arrOf st₂) _ _).Perm _; rw [ha]; exact hperm) (fun j hj => by show (putAll (arrOf st₂) _ _)[j]? = _; rw [ha, get, if_neg (by lia)]) ?_
    show SOn r (putAll (arrOf st₂) _ _) _ _
    rw [ha]
    intro i j q1 q2 q3
    -- below, amid, above
    have low : ∀ i n, sa ≤ i → i < sa + k → sa + k ≤ n → n < sa + na + nb → r (F (arrOf st) i) ≤ r (F (arrOf st) n) := fun i n c1 c2 c3 c4 => by
      by_cases c5 : n < sa + na
      · exact s1 _ _ c1 (by lia) c5
      · have h1 := A1 (i - sa) (by lia)
        rw [show sa + (i - sa) = i by lia] at h1
        exact Int.le_trans h1 (s2 _ _ (Nat.le_refl _) (by lia) c4)
    have high : ∀ n j, sa + k ≤ n → n < sa + na + m → sa + na + m ≤ j → j < sa + na + nb → r (F (arrOf st) n) ≤ r (F (arrOf st) j) := fun n j c1 c2 c3 c4 => by
      by_cases c5 : n < sa + na
      · have h1 := B2 (j - (sa + na)) (by lia) (by lia)
        rw [show sa + na + (j - (sa + na)) = j by lia] at h1
        exact Int.le_trans (s1 n (sa + na - 1) (by lia) (by lia) (by lia)) h1
      · exact s2 _ _ (by lia) (by lia) c4
    by_cases c1 : i < sa + k
    · rw [notM i (by lia)]
      by_cases c2 : j < sa + k
      · rw [notM j (by lia)]; exact s1 _ _ q1 q2 (by lia)
      · by_cases c3 : j < sa + na + m
        · rw [inM j (by lia) c3]
          obtain ⟨n, d1, d2, d3⟩ := from_ (j - (sa + k)) (by lia)
          rw [d3]; exact low i n q1 c1 d1 (by lia)
        · rw [notM j (by lia)]; exact low i j q1 c1 (by lia) q3
    · by_cases c2 : i < sa + na + m
      · rw [inM i (by lia) c2]
        by_cases c3 : j < sa + na + m
        · rw [inM j (by lia) c3]; exact sres _ _ (by lia) (by lia)
        · rw [notM j (by lia)]
          obtain ⟨n, d1, d2, d3⟩ := from_ (i - (sa + k)) (by lia)
          rw [d3]; exact high n j d1 d2 (by lia) q3
      · rw [notM i (by lia), notM j (by lia)]; exact s2 _ _ (by lia) q2 q3
  have tail : ∀ (st₂ : SortSt) (res : Array Keyed), failedOf st₂ = none → Q true (setArr st₂ (putAll (arrOf st₂) (sa + k) res.toList.zipIdx)) → True := fun _ _ _ _ => trivial
  by_cases e3 : na - k ≤ m
  · rw [if_pos e3]
    refine wpS_bind (wpS_mergeLo (a := (arrOf st).extract (sa + k) (sa + na)) (b := (arrOf st).extract (sa + na) (sa + na + m)) hR hk dx dy sx sy (by lia) (by lia) (by rw [fx 0 (by lia), fy 0 (by lia)]; exact Int.le_of_lt (A2 k (Nat.le_refl _) (by lia))) (fun i hi => ?_) fun res st₂ k2 hm => ?_)
    · rw [hy1] at hi
      rw [hx1, fx _ (by lia), fy i hi, show sa + k + (na - k - 1) = sa + na - 1 by lia]; exact B1 i hi
    · refine wpS_bind (wpS_modify (wpS_bind (wpS_get (wpS_pure ?_))))
      have hq := fin res st₂ k2 hm
      have hfn : failedOf st₂ = none := k2.failed.trans hfl
      show Q (failedOf st₂).isNone _
      rw [hfn]; exact hq
  · rw [if_neg e3]
    refine wpS_bind (wpS_mergeHi (a := (arrOf st).extract (sa + k) (sa + na)) (b := (arrOf st).extract (sa + na) (sa + na + m)) hR hk dx dy sx sy (by lia) (by lia) (fun i hi => ?_) ?_ fun res st₂ k2 hm => ?_)
    · rw [hx1] at hi
      rw [fx i hi, fy 0 (by lia)]
      have := A2 (k + i) (by lia) (by lia)
      rwa [show sa + (k + i) = sa + k + i by lia] at this
    · rw [hx1, hy1, fx _ (by lia), fy _ (by lia), show sa + k + (na - k - 1) = sa + na - 1 by lia]; exact Int.le_of_lt (B1 _ (by lia))
    · refine wpS_bind (wpS_modify (wpS_bind (wpS_get (wpS_pure ?_))))
      have hq := fin res st₂ k2 hm
      have hfn : failedOf st₂ = none := k2.failed.trans hfl
      show Q (failedOf st₂).isNone _
      rw [hfn]; exact hq
end
end Mine
end

/-! # MT6 -/
section
set_option autoImplicit false
set_option maxRecDepth 100000
namespace Mine
open PySem PyProof.Rows

/-- the same but for the order of what lies from lo on -/
structure Wk (lo : Nat) (st st' : SortSt) : Prop where
  kind : kindOf st' = kindOf st
  pend : pendingOf st' = pendingOf st
  failed : failedOf st' = failedOf st
  perm : (arrOf st').Perm (arrOf st)
  low : ∀ j, j < lo → (arrOf st')[j]? = (arrOf st)[j]?
theorem Wk.refl (lo : Nat) (st : SortSt) : Wk lo st st := ⟨rfl, rfl, rfl, Array.Perm.refl _, fun _ _ => rfl⟩
theorem Wk.size {lo : Nat} {st st' : SortSt} (h : Wk lo st st') : (arrOf st').size = (arrOf st).size := h.perm.size_eq
theorem Wk.setArr {lo : Nat} {st st' : SortSt} (h : Wk lo st st') {xs : Array Keyed} (hp : xs.Perm (arrOf st')) (hl : ∀ j, j < lo → xs[j]? = (arrOf st')[j]?) : Wk lo st (setArr st' xs) :=
  ⟨h.kind, h.pend, h.failed, hp.trans h.perm, fun j hj => (hl j hj).trans (h.low j hj)⟩

section
variable {r : Keyed → Int}
def G (r : Keyed → Int) (st : SortSt) (i : Nat) : Int := r (F (arrOf st) i)
def NI (r : Keyed → Int) (st : SortSt) (lo hi : Nat) : Prop := ∀ i j, lo ≤ i → i ≤ j → j < hi → G r st j ≤ G r st i
def ND (r : Keyed → Int) (st : SortSt) (lo hi : Nat) : Prop := ∀ i j, lo ≤ i → i ≤ j → j < hi → G r st i ≤ G r st j

theorem G_mirror {st : SortSt} {i j : Nat} (hj : j ≤ (arrOf st).size) (k : Nat) : G r (setArr st (mirror (arrOf st) i j ((j - i) / 2))) k = if i ≤ k ∧ k < j then G r st (i + j - 1 - k) else G r st k := by
  unfold G
  show r (F (mirror (arrOf st) i j ((j - i) / 2)) k) = _
  have e := getElem?_mirror_all (i := i) hj k
  by_cases h : i ≤ k ∧ k < j
  · rw [if_pos h] at e ⊢; rw [F_congr e]
  · rw [if_neg h] at e ⊢; rw [F_congr e]
theorem Wk.mirror {lo : Nat} {st st' : SortSt} (h : Wk lo st st') {i j : Nat} (hj : j ≤ (arrOf st').size) (hi : lo ≤ i) : Wk lo st (PyProof.Rows.setArr st' (PyProof.Rows.mirror (arrOf st') i j ((j - i) / 2))) :=
  h.setArr (mirror_perm _ _ _ _) fun k hk => by rw [getElem?_mirror_all hj, if_neg (by lia)]
theorem G_mirror_eq {st : SortSt} {i j : Nat} (hj : j ≤ (arrOf st).size) (he : ∀ k, i ≤ k → k < j → G r st k = G r st (j - 1)) (k : Nat) : G r (setArr st (mirror (arrOf st) i j ((j - i) / 2))) k = G r st k := by
  rw [G_mirror hj]
  split
  · rw [he _ (by lia) (by lia), he k (by lia) (by lia)]
  · rfl
end

section
variable {prog : Program} {w : World} {A : Around} {E : Value → Shared → Prop} {s : Shared} {kd : SortKind} {Dm : Keyed → Prop} {r : Keyed → Int}

theorem wpS_ltG (hR : Ranks prog w A E s kd Dm r) {st₀ st : SortSt} {lo i j : Nat} {Q : Option Bool → SortSt → Prop} (hk : kindOf st₀ = kd) (hD : ∀ x ∈ (arrOf st₀).toList, Dm x) (W : Wk lo st₀ st) (hi : i < (arrOf st₀).size) (hj : j < (arrOf st₀).size)
    (h : Q (some (decide (G r st i < G r st j))) st) : wpS (model prog w) A E s (ltAt' i j) Q st := by
  have hD' : ∀ k, k < (arrOf st₀).size → Dm (F (arrOf st) k) := fun k hk => hD _ ((Array.perm_iff_toList_perm.mp W.perm).mem_iff.mp (F_mem (by rw [W.size]; exact hk)))
  rw [ltAt'_eq]
  refine wpS_bind (wpS_get ?_)
  show wpS _ _ _ _ (do let x ← elem' (arrOf st) i; let y ← elem' (arrOf st) j; lt' x y) Q st
  refine wpS_bind (wpS_elem (F_at (by rw [W.size]; exact hi)) (wpS_bind (wpS_elem (F_at (by rw [W.size]; exact hj)) ?_)))
  exact hR _ _ _ _ (W.kind.trans hk) (hD' i hi) (hD' j hj) h

theorem wpS_binarySortG (hR : Ranks prog w A E s kd Dm r) {st : SortSt} {lo n ok : Nat} {Q : Bool → SortSt → Prop} (hk : kindOf st = kd) (hD : ∀ x ∈ (arrOf st).toList, Dm x) (hn : lo + n ≤ (arrOf st).size) (hok : ok ≤ n) (hs : ND r st lo (lo + ok))
    (h : ∀ st', Wk lo st st' → ND r st' lo (lo + n) → Q true st') : wpS (model prog w) A E s (binarySort' lo n ok) Q st := by
  rw [binarySort'_eq]
  refine wpS_bind (wpS_mono (wpS_forRange (I := fun k c st' => c = (none, ()) ∧ Wk lo st st' ∧ ND r st' lo (lo + min k n))
    (Q := fun c st' => c = (none, ()) ∧ Wk lo st st' ∧ ND r st' lo (lo + n)) ?step ?fin ?init) ?post)
  case post =>
    rintro c st' ⟨rfl, hB', hs'⟩
    exact wpS_pure (h st' hB' hs')
  case init =>
    refine ⟨rfl, Wk.refl _ _, fun i j h1 hij hj => ?_⟩
    by_cases h0 : ok = 0
    · have : i = j := by lia
      subst this; exact Int.le_refl _
    · exact hs i j h1 hij (by lia)
  case fin =>
    rintro c st' ⟨hc, hB', hs'⟩
    refine ⟨hc, hB', ?_⟩
    rwa [show min (max (max ok 1) n) n = n by lia] at hs'
  case step =>
    rintro k c st' hak hkn ⟨rfl, hB', hs'⟩
    rw [show min k n = k by lia] at hs'
    refine wpS_bind (wpS_mono (wpS_forRange (I := fun x c st'' => st'' = st' ∧ ∃ l q, c = (none, l, q) ∧ l ≤ q ∧ q ≤ k ∧ q - l ≤ k - x ∧
        (∀ i, i < l → G r st' (lo + i) ≤ G r st' (lo + k)) ∧ (∀ i, q ≤ i → i < k → G r st' (lo + k) < G r st' (lo + i)))
      (Q := fun c st'' => st'' = st' ∧ ∃ l q, c = (none, l, q) ∧ l ≤ k ∧
        (∀ i, i < l → G r st' (lo + i) ≤ G r st' (lo + k)) ∧ (∀ i, l ≤ i → i < k → G r st' (lo + k) < G r st' (lo + i))) ?istep ?ifin ?iinit) ?ipost)
    case iinit => exact ⟨rfl, 0, k, rfl, by lia, by lia, by lia, fun i hi => by lia, fun i h1 h2 => by lia⟩
    case ifin =>
      rintro c st'' ⟨rfl, l, q, rfl, hlr, hrk, hm, hlo, hhi⟩
      have : l = q := by lia
      subst this
      exact ⟨rfl, l, l, rfl, hrk, hlo, hhi⟩
    case istep =>
      rintro x c st'' _ hxk ⟨rfl, l, q, rfl, hlr, hrk, hm, hlo, hhi⟩
      dsimp only
      by_cases hge : l ≥ q
      · rw [if_pos hge]
        have : l = q := by lia
        subst this
        exact wpS_pure ⟨rfl, l, l, rfl, hrk, hlo, hhi⟩
      · rw [if_neg hge]
        refine wpS_bind (wpS_ltG hR hk hD hB' (by lia) (by lia) ?_)
        by_cases hless : G r st'' (lo + k) < G r st'' (lo + (l + q) / 2)
        · simp only [hless, decide_true, if_true]
          refine wpS_pure ⟨rfl, l, (l + q) / 2, rfl, by lia, by lia, by lia, hlo, fun i h1 h2 => ?_⟩
          exact Int.lt_of_lt_of_le hless (hs' _ _ (by lia) (by lia) (by lia))
        · simp only [hless, decide_false, Bool.false_eq_true, if_false]
          refine wpS_pure ⟨rfl, (l + q) / 2 + 1, q, rfl, by lia, by lia, by lia, fun i h1 => ?_, hhi⟩
          exact Int.le_trans (hs' (lo + i) (lo + (l + q) / 2) (by lia) (by lia) (by lia)) (Int.not_lt.mp hless)
    case ipost =>
      rintro c st'' ⟨rfl, l, q, rfl, hlk, hlo, hhi⟩
      show wpS _ _ _ _ (do moveDown' (lo + k) (lo + l); pure (ForInStep.yield (none, ()))) _ _
      rw [moveDown'_eq]
      have hks : lo + k < (arrOf st'').size := by rw [hB'.size]; lia
      have gb : ∀ j, (bubble (arrOf st'') (lo + k) (lo + k - (lo + l)))[j]? = if j = lo + l then (arrOf st'')[lo + k]? else if lo + l < j ∧ j ≤ lo + k then (arrOf st'')[j - 1]? else (arrOf st'')[j]? := fun j => by
        have := getElem?_bubble hks (lo + k - (lo + l)) (by lia) j
        rwa [show lo + k - (lo + k - (lo + l)) = lo + l by lia] at this
      refine wpS_bind (wpS_modify (wpS_pure ⟨rfl, hB'.setArr (bubble_perm _ _ _) fun j hj => ?_, ?_⟩))
      · rw [gb, if_neg (by lia), if_neg (by lia)]
      · rw [show min (k + 1) n = k + 1 by lia]
        have g : ∀ j, G r (setArr st'' (bubble (arrOf st'') (lo + k) (lo + k - (lo + l)))) j = if j = lo + l then G r st'' (lo + k) else if lo + l < j ∧ j ≤ lo + k then G r st'' (j - 1) else G r st'' j := fun j => by
          unfold G
          show r (F (bubble (arrOf st'') (lo + k) (lo + k - (lo + l))) j) = _
          have e := gb j
          by_cases h1 : j = lo + l
          · rw [if_pos h1] at e ⊢; rw [F_congr e]
          · rw [if_neg h1] at e ⊢
            by_cases h2 : lo + l < j ∧ j ≤ lo + k
            · rw [if_pos h2] at e ⊢; rw [F_congr e]
            · rw [if_neg h2] at e ⊢; rw [F_congr e]
        intro i j h1 hij hj
        rw [g, g]
        have hlo' : ∀ i, lo ≤ i → i < lo + l → G r st'' i ≤ G r st'' (lo + k) := fun i q1 q2 => by have := hlo (i - lo) (by lia); rwa [show lo + (i - lo) = i by lia] at this
        have hhi' : ∀ i, lo + l ≤ i → i < lo + k → G r st'' (lo + k) < G r st'' i := fun i q1 q2 => by have := hhi (i - lo) (by lia) (by lia); rwa [show lo + (i - lo) = i by lia] at this
        repeat' split
        all_goals first
          | (exfalso; lia)
          | exact Int.le_refl _
          | exact hlo' _ (by lia) (by lia)
          | exact Int.le_of_lt (hhi' _ (by lia) (by lia))
          | exact hs' _ _ (by lia) (by lia) (by lia)

theorem wpS_rev {i j : Nat} {Q : Unit → SortSt → Prop} {st : SortSt} (h : Q () (setArr st (mirror (arrOf st) i j ((j - i) / 2)))) : wpS (model prog w) A E s (reverseSlice' i j) Q st := by
  rw [reverseSlice'_eq]; exact wpS_modify h

theorem wpS_countRunG (hR : Ranks prog w A E s kd Dm r) {st : SortSt} {lo nrem : Nat} {Q : Option Nat → SortSt → Prop} (hk : kindOf st = kd) (hD : ∀ x ∈ (arrOf st).toList, Dm x) (hn : lo + nrem ≤ (arrOf st).size) (h1 : 1 ≤ nrem)
    (h : ∀ n st', Wk lo st st' → 1 ≤ n → n ≤ nrem → ND r st' lo (lo + n) → Q (some n) st') : wpS (model prog w) A E s (countRun' lo nrem) Q st := by
  -- count
  refine wpS_bind (wpS_mono (wpS_forRange (I := fun x c st' => st' = st ∧ c = (none, x) ∧ x ≤ nrem ∧ 1 ≤ x ∧ ND r st lo (lo + x))
    (Q := fun c st' => st' = st ∧ ∃ n, c = (none, n) ∧ 1 ≤ n ∧ n ≤ nrem ∧ ND r st lo (lo + n) ∧ (n = nrem ∨ (n < nrem ∧ G r st (lo + n) < G r st (lo + n - 1)))) ?step1 ?fin1 ⟨rfl, rfl, h1, Nat.le_refl _, fun i j q1 q2 q3 => ?one⟩) ?post1)
  case one =>
    have : i = j := by lia
    subst this; exact Int.le_refl _
  case fin1 =>
    rintro c st' ⟨rfl, rfl, p1, p2, p3⟩
    exact ⟨rfl, _, rfl, p2, p1, p3, .inl (by lia)⟩
  case step1 =>
    rintro x c st' c1 c2 ⟨rfl, rfl, p1, p2, p3⟩
    dsimp only
    refine wpS_bind (wpS_ltG hR hk hD (Wk.refl lo _) (by lia) (by lia) ?_)
    by_cases hs : G r st' (lo + x) < G r st' (lo + x - 1)
    · simp only [hs, decide_true, if_true]
      exact wpS_pure ⟨rfl, x, rfl, p2, p1, p3, .inr ⟨c2, hs⟩⟩
    · simp only [hs, decide_false, Bool.false_eq_true, if_false]
      refine wpS_pure ⟨rfl, rfl, by lia, by lia, fun i j q1 q2 q3 => ?_⟩
      by_cases q : j < lo + x
      · exact p3 i j q1 q2 q
      · by_cases q' : i = j
        · subst q'; exact Int.le_refl _
        · have e : j = lo + x := by lia
          subst e
          exact Int.le_trans (p3 i (lo + x - 1) q1 (by lia) (by lia)) (Int.not_lt.mp hs)
  case post1 =>
    rintro c st' ⟨rfl, n, rfl, p1, p2, p3, p4⟩
    dsimp only
    by_cases e1 : n = nrem
    · rw [if_pos (by simp [e1])]
      exact wpS_pure (h n _ (Wk.refl _ _) p1 p2 p3)
    rw [if_neg (by simp [e1])]
    have hlt : n < nrem ∧ G r st' (lo + n) < G r st' (lo + n - 1) := p4.resolve_left e1
    refine wpS_iteJ (fun st1 => Wk lo st' st1 ∧ NI r st1 lo (lo + (n + 1))) ?desc ?big ?one1
    case one1 =>
      intro e2
      refine ⟨Wk.refl lo st', fun i j q1 q2 q3 => ?_⟩
      by_cases d : i = j
      · subst d; exact Int.le_refl _
      · have d1 : i = lo := by lia
        have d2 : j = lo + n := by lia
        have d3 : lo + n - 1 = lo := by lia
        subst d1 d2; rw [d3] at hlt; exact Int.le_of_lt hlt.2
    case big =>
      intro e2 hT
      refine wpS_bind (wpS_ltG hR hk hD (Wk.refl lo _) (by lia) (by lia) ?_)
      by_cases hs : G r st' lo < G r st' (lo + n - 1)
      · simp only [hs, decide_true, if_true]
        exact wpS_pure (h n _ (Wk.refl _ _) p1 p2 p3)
      · simp only [hs, decide_false, Bool.false_eq_true, if_false]
        have he : ∀ k, lo ≤ k → k < lo + n → G r st' k = G r st' (lo + n - 1) := fun k q1 q2 => by
          have a1 := p3 lo k (Nat.le_refl _) q1 q2
          have a2 := p3 k (lo + n - 1) q1 (by lia) (by lia)
          lia
        have e := G_mirror_eq (r := r) (st := st') (i := lo) (j := lo + n) (by lia) he
        refine wpS_bind (wpS_rev (hT _ ⟨(Wk.refl lo st').mirror (i := lo) (j := lo + n) (by lia) (Nat.le_refl _), fun i j q1 q2 q3 => ?_⟩))
        rw [e, e]
        by_cases d : j < lo + n
        · rw [he i q1 (by lia), he j (by lia) d]; exact Int.le_refl _
        · have e' : j = lo + n := by lia
          subst e'
          by_cases d' : i = lo + n
          · subst d'; exact Int.le_refl _
          · rw [he i q1 (by lia)]; exact Int.le_of_lt hlt.2
    case desc =>
      rintro st1 ⟨W1, N1⟩
      refine wpS_bind (wpS_lift (wpAny_rule ⟨rfl, ?_⟩))
      refine wpS_bind (wpS_mono (wpS_forRange (I := fun x c st2 => Wk lo st' st2 ∧ ∃ q, c = (none, x, q) ∧ x ≤ nrem ∧ n + 1 ≤ x ∧ q + 1 ≤ x ∧ NI r st2 lo (lo + x) ∧ (∀ k, lo + x - (q + 1) ≤ k → k < lo + x → G r st2 k = G r st2 (lo + x - 1)))
        (Q := fun c st2 => Wk lo st' st2 ∧ ∃ n' q, c = (none, n', q) ∧ n' ≤ nrem ∧ n + 1 ≤ n' ∧ q + 1 ≤ n' ∧ NI r st2 lo (lo + n') ∧ (∀ k, lo + n' - (q + 1) ≤ k → k < lo + n' → G r st2 k = G r st2 (lo + n' - 1))) ?step2 ?fin2 ⟨W1, 0, rfl, by lia, Nat.le_refl _, by lia, N1, fun k q1 q2 => by congr 1; lia⟩) ?post2)
      case fin2 =>
        rintro c st2 ⟨W2, q, rfl, p1, p2, p3, p4, p5⟩
        exact ⟨W2, _, q, rfl, p1, p2, p3, p4, p5⟩
      case step2 =>
        rintro x c st2 c1 c2 ⟨W2, q, rfl, p1, p2, p3, p4, p5⟩
        dsimp only
        have more : ∀ st3, (∀ k, G r st3 k = G r st2 k) → G r st2 (lo + x) ≤ G r st2 (lo + x - 1) → NI r st3 lo (lo + (x + 1)) := fun st3 e hle i j q1 q2 q3 => by
          rw [e, e]
          by_cases d : j < lo + x
          · exact p4 i j q1 q2 d
          · have e' : j = lo + x := by lia
            subst e'
            by_cases d' : i = lo + x
            · subst d'; exact Int.le_refl _
            · exact Int.le_trans hle (p4 i (lo + x - 1) q1 (by lia) (by lia))
        refine wpS_bind (wpS_ltG hR hk hD W2 (by lia) (by lia) ?_)
        by_cases hs : G r st2 (lo + x) < G r st2 (lo + x - 1)
        · simp only [hs, decide_true, if_true]
          by_cases hq : q > 0
          · rw [if_pos hq]
            have e := G_mirror_eq (r := r) (st := st2) (i := lo + x - (q + 1)) (j := lo + x) (by rw [W2.size]; lia) p5
            exact wpS_bind (wpS_rev (wpS_pure ⟨W2.mirror (by rw [W2.size]; lia) (by lia), 0, rfl, by lia, by lia, by lia, more _ e (Int.le_of_lt hs), fun k q1 q2 => by congr 1; lia⟩))
          · rw [if_neg hq]
            exact wpS_pure ⟨W2, 0, rfl, by lia, by lia, by lia, more _ (fun _ => rfl) (Int.le_of_lt hs), fun k q1 q2 => by congr 1; lia⟩
        · simp only [hs, decide_false, Bool.false_eq_true, if_false]
          refine wpS_bind (wpS_ltG hR hk hD W2 (by lia) (by lia) ?_)
          by_cases hl : G r st2 (lo + x - 1) < G r st2 (lo + x)
          · simp only [hl, decide_true, if_true]
            exact wpS_pure ⟨W2, x, q, rfl, p1, p2, p3, p4, p5⟩
          · simp only [hl, decide_false, Bool.false_eq_true, if_false]
            have he : G r st2 (lo + x) = G r st2 (lo + x - 1) := by lia
            refine wpS_pure ⟨W2, q + 1, rfl, by lia, by lia, by lia, more _ (fun _ => rfl) (by lia), fun k q1 q2 => ?_⟩
            rw [show lo + (x + 1) - 1 = lo + x by lia, he]
            by_cases d : k = lo + x
            · rw [d, he]
            · exact p5 k (by lia) (by lia)
      case post2 =>
        rintro c st2 ⟨W2, n', q, rfl, p1, p2, p3, p4, p5⟩
        dsimp only
        refine wpS_iteJ (fun st4 => Wk lo st' st4 ∧ NI r st4 lo (lo + n')) ?fin4 ?rev4 ?no4
        case no4 => exact fun _ => ⟨W2, p4⟩
        case rev4 =>
          intro hq hT
          have e := G_mirror_eq (r := r) (st := st2) (i := lo + n' - (q + 1)) (j := lo + n') (by rw [W2.size]; lia) p5
          exact wpS_bind (wpS_rev (hT _ ⟨W2.mirror (i := lo + n' - (q + 1)) (j := lo + n') (by rw [W2.size]; lia) (by lia), fun i j q1 q2 q3 => by rw [e, e]; exact p4 i j q1 q2 q3⟩))
        case fin4 =>
          rintro st4 ⟨W4, N4⟩
          refine wpS_bind (wpS_rev ?_)
          have W5 := W4.mirror (i := lo) (j := lo + n') (by rw [W4.size]; lia) (Nat.le_refl _)
          have N5 : ND r (setArr st4 (mirror (arrOf st4) lo (lo + n') ((lo + n' - lo) / 2))) lo (lo + n') := fun i j q1 q2 q3 => by
            rw [G_mirror (by rw [W4.size]; lia), G_mirror (by rw [W4.size]; lia), if_pos (by lia), if_pos (by lia)]
            exact N4 _ _ (by lia) (by lia) (by lia)
          generalize setArr st4 (mirror (arrOf st4) lo (lo + n') ((lo + n' - lo) / 2)) = st5 at W5 N5 ⊢
          refine wpS_bind (wpS_mono (wpS_forRange (I := fun x c st6 => st6 = st5 ∧ c = (none, x) ∧ x ≤ nrem ∧ n' ≤ x ∧ ND r st5 lo (lo + x))
            (Q := fun c st6 => st6 = st5 ∧ ∃ x, c = (none, x) ∧ x ≤ nrem ∧ n' ≤ x ∧ ND r st5 lo (lo + x)) ?step3 ?fin3 ⟨rfl, rfl, by lia, Nat.le_refl _, N5⟩) ?post3)
          case fin3 =>
            rintro c st6 ⟨rfl, rfl, p1, p2, p3⟩
            exact ⟨rfl, _, rfl, p1, p2, p3⟩
          case step3 =>
            rintro x c st6 c1 c2 ⟨rfl, rfl, p1, p2, p3⟩
            dsimp only
            refine wpS_bind (wpS_ltG hR hk hD W5 (by lia) (by lia) ?_)
            by_cases hs : G r st6 (lo + x) < G r st6 (lo + x - 1)
            · simp only [hs, decide_true, if_true]
              exact wpS_pure ⟨rfl, x, rfl, p1, p2, p3⟩
            · simp only [hs, decide_false, Bool.false_eq_true, if_false]
              refine wpS_pure ⟨rfl, rfl, by lia, by lia, fun i j q1 q2 q3 => ?_⟩
              by_cases q : j < lo + x
              · exact p3 i j q1 q2 q
              · by_cases q' : i = j
                · subst q'; exact Int.le_refl _
                · have e : j = lo + x := by lia
                  subst e
                  exact Int.le_trans (p3 i (lo + x - 1) q1 (by lia) (by lia)) (Int.not_lt.mp hs)
          case post3 =>
            rintro c st6 ⟨rfl, x, rfl, p1, p2, p3⟩
            exact wpS_pure (h x _ W5 (by lia) p1 p3)
end
end Mine
end

/-! # MT7 -/
section
set_option autoImplicit false
set_option maxRecDepth 100000
namespace Mine
open PySem PyProof.Rows

abbrev Run := Nat × Nat × Nat
def Chain : List Run → Nat → Nat → Prop
  | [], a, b => a = b
  | q :: l, a, b => q.1 = a ∧ 0 < q.2.1 ∧ Chain l (a + q.2.1) b
theorem chain_append {m : List Run} {b : Nat} : ∀ {l : List Run} {a : Nat}, Chain (l ++ m) a b ↔ ∃ c, Chain l a c ∧ Chain m c b
  | [], a => by simp [Chain]
  | q :: l, a => by
    simp only [List.cons_append, Chain, chain_append (l := l)]
    constructor
    · rintro ⟨h1, h2, c, h3, h4⟩; exact ⟨c, ⟨h1, h2, h3⟩, h4⟩
    · rintro ⟨c, ⟨h1, h2, h3⟩, h4⟩; exact ⟨h1, h2, c, h3, h4⟩
theorem chain_le : ∀ {l : List Run} {a b : Nat}, Chain l a b → a + l.length ≤ b
  | [], a, b, h => by simp [Chain] at h; simp [h]
  | q :: l, a, b, h => by
    obtain ⟨_, h2, h3⟩ := h
    have := chain_le h3
    simp only [List.length_cons]; omega
theorem chain_mem : ∀ {l : List Run} {a b : Nat} {q : Run}, Chain l a b → q ∈ l → a ≤ q.1 ∧ q.1 + q.2.1 ≤ b
  | _ :: l, a, b, q, h, hq => by
    obtain ⟨h1, h2, h3⟩ := h
    have hl := chain_le h3
    rcases List.mem_cons.mp hq with e | e
    · subst e; omega
    · have := chain_mem h3 e; omega

structure Rn (kd : SortKind) (r : Keyed → Int) (a₀ : Array Keyed) (st : SortSt) (lo : Nat) : Prop where
  kind : kindOf st = kd
  failed : failedOf st = none
  perm : (arrOf st).Perm a₀
  chain : Chain (pendingOf st).toList 0 lo
  runs : ∀ q ∈ (pendingOf st).toList, ND r st q.1 (q.1 + q.2.1)

theorem split_two {P : Array Run} {i : Nat} (h : i + 1 < P.size) : ∃ l1 q q' l2, P.toList = l1 ++ q :: q' :: l2 ∧ l1.length = i ∧ P[i]? = some q ∧ P[i + 1]? = some q' := by
  refine ⟨P.toList.take i, P[i], P[i + 1], P.toList.drop (i + 2), ?_, by simp; omega, by simp [show i < P.size by omega], by simp [h]⟩
  have e1 : P.toList.drop i = P[i] :: P.toList.drop (i + 1) := by rw [List.drop_eq_getElem_cons (by simp; omega)]; simp
  have e2 : P.toList.drop (i + 1) = P[i + 1] :: P.toList.drop (i + 2) := by rw [List.drop_eq_getElem_cons (by simpa using h)]; simp
  rw [← e2, ← e1, List.take_append_drop]
theorem merged_two {P : Array Run} {l1 l2 : List Run} {q q' x : Run} (h : P.toList = l1 ++ q :: q' :: l2) : ((P.setIfInBounds l1.length x).eraseIdxIfInBounds (l1.length + 1)).toList = l1 ++ x :: l2 := by
  have hs : P.size = l1.length + (l2.length + 2) := by rw [← Array.length_toList, h]; simp
  rw [Array.eraseIdxIfInBounds, dif_pos (by simp; omega)]
  rw [Array.toList_eraseIdx, Array.toList_setIfInBounds, h, List.set_append_right _ _ (Nat.le_refl _)]
  simp [List.eraseIdx_append_of_length_le]

section
variable {prog : Program} {w : World} {A : Around} {E : Value → Shared → Prop} {s : Shared} {kd : SortKind} {Dm : Keyed → Prop} {r : Keyed → Int} {a₀ : Array Keyed}

theorem ND.of_eq {st st' : SortSt} {lo hi : Nat} (h : ND r st lo hi) (e : ∀ j, lo ≤ j → j < hi → (arrOf st')[j]? = (arrOf st)[j]?) : ND r st' lo hi := fun i j h1 h2 h3 => by
  unfold G; rw [F_congr (e i h1 (by omega)), F_congr (e j (by omega) h3)]; exact h i j h1 h2 h3

theorem wpS_mergeRn (hR : Ranks prog w A E s kd Dm r) (hD : ∀ x ∈ a₀.toList, Dm x) {i lo : Nat} {st : SortSt} {Q : Bool → SortSt → Prop} (R : Rn kd r a₀ st lo) (hlo : lo ≤ a₀.size) (hi : i + 1 < (pendingOf st).size)
    (hQ : ∀ st', Rn kd r a₀ st' lo → (pendingOf st').size + 1 = (pendingOf st).size → (∀ j, lo ≤ j → (arrOf st')[j]? = (arrOf st)[j]?) → Q true st') : wpS (model prog w) A E s (mergeAt' i) Q st := by
  obtain ⟨l1, ⟨sa, na, p⟩, ⟨sb, nb, p2⟩, l2, hP, hl, e1, e2⟩ := split_two hi
  have hc := R.chain
  rw [hP] at hc
  obtain ⟨c, c1, c2⟩ := chain_append.mp hc
  obtain ⟨c3, c4, c5, c6, c7⟩ := c2
  dsimp only at c3 c4 c5 c6 c7
  subst c3
  subst c5
  have hsz : (arrOf st).size = a₀.size := R.perm.size_eq
  have hle := chain_le c7
  have m1 : ((sa, na, p) : Run) ∈ (pendingOf st).toList := by rw [hP]; simp
  have m2 : ((sa + na, nb, p2) : Run) ∈ (pendingOf st).toList := by rw [hP]; simp
  refine wpS_mergeAt hR R.kind R.failed e1 e2 c4 c6 (by omega) (fun x hx => hD x ((Array.perm_iff_toList_perm.mp R.perm).mem_iff.mp hx)) (R.runs _ m1) (R.runs _ m2) fun st' k1 k2 k3 k4 k5 k6 => ?_
  have hP' : (pendingOf st').toList = l1 ++ (sa, na + nb, p) :: l2 := by rw [k3, ← hl]; exact merged_two hP
  refine hQ st' ⟨k1.trans R.kind, k2, k4.trans R.perm, ?_, fun q hq => ?_⟩ ?_ fun j hj => k5 j (by omega)
  · rw [hP']
    refine chain_append.mpr ⟨_, c1, rfl, by dsimp only; omega, ?_⟩
    dsimp only
    rwa [← Nat.add_assoc]
  · rw [hP'] at hq
    rcases List.mem_append.mp hq with d | d
    · have hb := chain_mem c1 d
      exact (R.runs q (by rw [hP]; exact List.mem_append_left _ d)).of_eq fun j q1 q2 => k5 j (by omega)
    · rcases List.mem_cons.mp d with d | d
      · subst d
        dsimp only
        rw [← Nat.add_assoc]; exact k6
      · have hb := chain_mem c7 d
        exact (R.runs q (by rw [hP]; exact List.mem_append_right _ (List.mem_cons_of_mem _ (List.mem_cons_of_mem _ d)))).of_eq fun j q1 q2 => k5 j (by omega)
  · rw [← Array.length_toList, ← Array.length_toList, hP', hP]; simp; omega

theorem chain_map {l l' : List Run} (h : l.map (fun q => (q.1, q.2.1)) = l'.map (fun q => (q.1, q.2.1))) {a b : Nat} (hc : Chain l a b) : Chain l' a b := by
  induction l generalizing l' a with
  | nil => cases l' with | nil => exact hc | cons _ _ => cases h
  | cons q l ih =>
    cases l' with
    | nil => cases h
    | cons q' l' =>
      simp only [List.map_cons, List.cons.injEq, Prod.mk.injEq] at h
      obtain ⟨h1, h2, h3⟩ := hc
      exact ⟨h.1.1 ▸ h1, h.1.2 ▸ h2, ih h.2 (h.1.2 ▸ h3)⟩
theorem Rn.power {st : SortSt} {lo : Nat} (R : Rn kd r a₀ st lo) (k pw : Nat) : Rn kd r a₀ (setPending st ((pendingOf st).modify k fun x => (x.1, x.2.1, pw))) lo := by
  have e : (pendingOf st).toList.map (fun q : Run => (q.1, q.2.1)) = ((pendingOf st).modify k fun x => (x.1, x.2.1, pw)).toList.map (fun q => (q.1, q.2.1)) := by
    refine List.ext_getElem? fun j => ?_
    rw [List.getElem?_map, List.getElem?_map, Array.getElem?_toList, Array.getElem?_toList, Array.getElem?_modify]
    split
    · cases (pendingOf st)[j]? <;> rfl
    · rfl
  refine ⟨R.kind, R.failed, R.perm, chain_map e R.chain, fun q hq => ?_⟩
  have hq' : (q.1, q.2.1) ∈ ((pendingOf st).modify k fun x => (x.1, x.2.1, pw)).toList.map (fun q => (q.1, q.2.1)) := List.mem_map.mpr ⟨q, hq, rfl⟩
  rw [← e] at hq'
  obtain ⟨q2, h1, h2⟩ := List.mem_map.mp hq'
  simp only [Prod.mk.injEq] at h2
  have := R.runs q2 h1
  rw [h2.1, h2.2] at this
  exact this

theorem wpS_sortRunsG (hR : Ranks prog w A E s kd Dm r) (hD : ∀ x ∈ a₀.toList, Dm x) {st : SortSt} {Q : Unit → SortSt → Prop} (hk : kindOf st = kd) (hf : failedOf st = none) (hp : pendingOf st = #[]) (hpm : (arrOf st).Perm a₀) (h2 : 2 ≤ a₀.size)
    (h : ∀ st', (arrOf st').Perm a₀ → failedOf st' = none → ND r st' 0 a₀.size → Q () st') : wpS (model prog w) A E s sortRuns' Q st := by
  have hDs : ∀ st' : SortSt, (arrOf st').Perm a₀ → ∀ x ∈ (arrOf st').toList, Dm x := fun st' hp x hx => hD x ((Array.perm_iff_toList_perm.mp hp).mem_iff.mp hx)
  rw [sortRuns'_eq]
  refine wpS_bind (wpS_get ?_)
  dsimp only
  simp only [hpm.size_eq]
  generalize minRun' a₀.size a₀.size 0 = minrun
  have R0 : Rn kd r a₀ st 0 := ⟨hk, hf, hpm, by rw [hp]; exact rfl, fun q hq => by rw [hp] at hq; simp at hq⟩
  refine wpS_bind (wpS_mono (wpS_forRange (I := fun x c st' => ∃ lo, c = (none, lo) ∧ Rn kd r a₀ st' lo ∧ lo ≤ a₀.size ∧ (x ≤ lo ∨ lo = a₀.size))
    (Q := fun c st' => c = (none, a₀.size) ∧ Rn kd r a₀ st' a₀.size) ?step ?fin ⟨0, rfl, R0, by omega, .inl (Nat.le_refl _)⟩) ?post)
  case fin =>
    rintro c st' ⟨lo, rfl, R, h3, h4⟩
    have : lo = a₀.size := by omega
    subst this
    exact ⟨rfl, R⟩
  case step =>
    rintro x c st' _ hx ⟨lo, rfl, R, h3, h4⟩
    dsimp only
    by_cases hge : lo ≥ a₀.size
    · rw [if_pos hge]
      have : lo = a₀.size := by omega
      subst this
      exact wpS_pure ⟨rfl, R⟩
    rw [if_neg hge]
    have hsz : (arrOf st').size = a₀.size := R.perm.size_eq
    refine wpS_bind (wpS_countRunG hR R.kind (hDs _ R.perm) (by omega) (by omega) fun n st2 W hn1 hn2 hND => ?_)
    dsimp only
    -- what follows, once the run is made
    have keep : ∀ st3 : SortSt, Wk lo st' st3 → Rn kd r a₀ st3 lo := fun st3 W => ⟨W.kind.trans R.kind, W.failed.trans R.failed, W.perm.trans R.perm, by rw [W.pend]; exact R.chain, fun q hq => by
      rw [W.pend] at hq
      have hb := chain_mem R.chain hq
      exact (R.runs q hq).of_eq fun j _ q2 => W.low j (by omega)⟩
    by_cases hmr : n < minrun
    · rw [if_pos hmr]
      refine wpS_bind (wpS_lift (wpAny_rule ⟨rfl, ?_⟩))
      have hsz2 : (arrOf st2).size = a₀.size := W.size.trans hsz
      refine wpS_bind (wpS_binarySortG hR (W.kind.trans R.kind) (hDs _ (W.perm.trans R.perm)) (by omega) (by omega) hND fun st3 W' N3 => ?_)
      rw [if_neg (by decide)]
      have W3 : Wk lo st' st3 := ⟨W'.kind.trans W.kind, W'.pend.trans W.pend, W'.failed.trans W.failed, W'.perm.trans W.perm, fun j hj => (W'.low j hj).trans (W.low j hj)⟩
      have hm1 : 1 ≤ min (a₀.size - lo) minrun := by omega
      have hm2 : min (a₀.size - lo) minrun ≤ a₀.size - lo := by omega
      generalize min (a₀.size - lo) minrun = m at N3 hm1 hm2 ⊢
      refine wpS_bind (wpS_get ?_)
      have R3 := keep st3 W3
      have pushes : ∀ st4, Rn kd r a₀ st4 lo → ND r st4 lo (lo + m) → Rn kd r a₀ (setPending st4 ((pendingOf st4).push (lo, m, 0))) (lo + m) := fun st4 R4 N4 =>
        ⟨R4.kind, R4.failed, R4.perm, by
          show Chain ((pendingOf st4).push (lo, m, 0)).toList 0 (lo + m)
          rw [Array.toList_push]; exact chain_append.mpr ⟨lo, R4.chain, rfl, hm1, rfl⟩, fun q hq => by
          have hq' : q ∈ ((pendingOf st4).push (lo, m, 0)).toList := hq
          rw [Array.toList_push] at hq'
          rcases List.mem_append.mp hq' with d | d
          · exact R4.runs q d
          · rw [List.mem_singleton] at d; subst d; exact N4⟩
      cases hb : (pendingOf st3).back? with
      | none =>
        dsimp only
        exact wpS_bind (wpS_modify (wpS_pure ⟨lo + m, rfl, pushes _ R3 N3, by omega, .inl (by omega)⟩))
      | some q =>
        obtain ⟨s1, n1, p1⟩ := q
        dsimp only
        refine wpS_bind (wpS_mono (wpS_forRange (I := fun _ c st4 => c = (none, ()) ∧ Rn kd r a₀ st4 lo ∧ ND r st4 lo (lo + m)) (Q := fun c st4 => c = (none, ()) ∧ Rn kd r a₀ st4 lo ∧ ND r st4 lo (lo + m)) ?_ (fun _ _ h => h) ⟨rfl, R3, N3⟩) ?_)
        · rintro y c st4 _ _ ⟨rfl, R4, N4⟩
          refine wpS_bind (wpS_get ?_)
          by_cases hp : (pendingOf st4).size > 1
          · rw [if_pos hp]
            obtain ⟨q', hq'⟩ : ∃ q', (pendingOf st4)[(pendingOf st4).size - 2]? = some q' := ⟨_, Array.getElem?_eq_getElem (by omega)⟩
            rw [hq']
            obtain ⟨_, _, older⟩ := q'
            dsimp only
            split
            · exact wpS_pure ⟨rfl, R4, N4⟩
            · refine wpS_bind (wpS_mergeRn hR hD R4 (by omega) (by omega) fun st5 R5 _ k5 => ?_)
              exact wpS_pure ⟨rfl, R5, N4.of_eq fun j q1 _ => k5 j q1⟩
          · rw [if_neg hp]; exact wpS_pure ⟨rfl, R4, N4⟩
        · rintro c st4 ⟨rfl, R4, N4⟩
          dsimp only
          refine wpS_bind (wpS_modify (wpS_bind (wpS_modify (wpS_pure ⟨lo + m, rfl, pushes _ (R4.power _ _) N4, by omega, .inl (by omega)⟩))))
    · rw [if_neg hmr]
      have W3 := W
      have N3 := hND
      have hm1 := hn1
      have hm2 := hn2
      generalize n = m at N3 hm1 hm2 ⊢
      generalize st2 = st3 at W3 N3 ⊢
      refine wpS_bind (wpS_get ?_)
      have R3 := keep st3 W3
      have pushes : ∀ st4, Rn kd r a₀ st4 lo → ND r st4 lo (lo + m) → Rn kd r a₀ (setPending st4 ((pendingOf st4).push (lo, m, 0))) (lo + m) := fun st4 R4 N4 =>
        ⟨R4.kind, R4.failed, R4.perm, by
          show Chain ((pendingOf st4).push (lo, m, 0)).toList 0 (lo + m)
          rw [Array.toList_push]; exact chain_append.mpr ⟨lo, R4.chain, rfl, hm1, rfl⟩, fun q hq => by
          have hq' : q ∈ ((pendingOf st4).push (lo, m, 0)).toList := hq
          rw [Array.toList_push] at hq'
          rcases List.mem_append.mp hq' with d | d
          · exact R4.runs q d
          · rw [List.mem_singleton] at d; subst d; exact N4⟩
      cases hb : (pendingOf st3).back? with
      | none =>
        dsimp only
        exact wpS_bind (wpS_modify (wpS_pure ⟨lo + m, rfl, pushes _ R3 N3, by omega, .inl (by omega)⟩))
      | some q =>
        obtain ⟨s1, n1, p1⟩ := q
        dsimp only
        refine wpS_bind (wpS_mono (wpS_forRange (I := fun _ c st4 => c = (none, ()) ∧ Rn kd r a₀ st4 lo ∧ ND r st4 lo (lo + m)) (Q := fun c st4 => c = (none, ()) ∧ Rn kd r a₀ st4 lo ∧ ND r st4 lo (lo + m)) ?_ (fun _ _ h => h) ⟨rfl, R3, N3⟩) ?_)
        · rintro y c st4 _ _ ⟨rfl, R4, N4⟩
          refine wpS_bind (wpS_get ?_)
          by_cases hp : (pendingOf st4).size > 1
          · rw [if_pos hp]
            obtain ⟨q', hq'⟩ : ∃ q', (pendingOf st4)[(pendingOf st4).size - 2]? = some q' := ⟨_, Array.getElem?_eq_getElem (by omega)⟩
            rw [hq']
            obtain ⟨_, _, older⟩ := q'
            dsimp only
            split
            · exact wpS_pure ⟨rfl, R4, N4⟩
            · refine wpS_bind (wpS_mergeRn hR hD R4 (by omega) (by omega) fun st5 R5 _ k5 => ?_)
              exact wpS_pure ⟨rfl, R5, N4.of_eq fun j q1 _ => k5 j q1⟩
          · rw [if_neg hp]; exact wpS_pure ⟨rfl, R4, N4⟩
        · rintro c st4 ⟨rfl, R4, N4⟩
          dsimp only
          refine wpS_bind (wpS_modify (wpS_bind (wpS_modify (wpS_pure ⟨lo + m, rfl, pushes _ (R4.power _ _) N4, by omega, .inl (by omega)⟩))))
  case post =>
    rintro c st' ⟨rfl, R⟩
    dsimp only
    refine wpS_bind (wpS_mono (wpS_forRange (I := fun x c st4 => c = (none, ()) ∧ Rn kd r a₀ st4 a₀.size ∧ (pendingOf st4).size + x ≤ a₀.size) (Q := fun c st4 => c = (none, ()) ∧ Rn kd r a₀ st4 a₀.size ∧ (pendingOf st4).size ≤ 1) ?step2 ?fin2 ⟨rfl, R, ?_⟩) ?post2)
    case step2 =>
      rintro x c st4 _ hx ⟨rfl, R4, p4⟩
      refine wpS_bind (wpS_get ?_)
      by_cases hp : (pendingOf st4).size ≤ 1
      · rw [if_pos hp]; exact wpS_pure ⟨rfl, R4, hp⟩
      · rw [if_neg hp]
        refine wpS_bind (wpS_mergeRn hR hD R4 (Nat.le_refl _) (by (repeat' split); all_goals omega) fun st5 R5 p5 _ => ?_)
        exact wpS_pure ⟨rfl, R5, by omega⟩
    case fin2 =>
      rintro c st4 ⟨rfl, R4, p4⟩
      exact ⟨rfl, R4, by omega⟩
    case post2 =>
      rintro c st4 ⟨rfl, R4, p4⟩
      refine wpS_pure (h st4 R4.perm R4.failed ?_)
      have hc := R4.chain
      have hr := R4.runs
      rw [← Array.length_toList] at p4
      match hl : (pendingOf st4).toList, p4 with
      | [], _ => rw [hl] at hc; simp [Chain] at hc; omega
      | [q], _ =>
        rw [hl] at hc
        obtain ⟨d1, d2, d3⟩ := hc
        simp only [Chain] at d3
        have := hr q (by rw [hl]; simp)
        rwa [d1, d3] at this
    · have := chain_le R.chain
      rw [Array.length_toList] at this; omega
end
end Mine
end

/-! # MT8 -/
section
set_option autoImplicit false
set_option maxRecDepth 100000
namespace Mine
open PySem PyProof.Rows

section
variable {prog : Program} {w : World} {A : Around} {E : Value → Shared → Prop} {s : Shared}

/-- list.sort() of items whose comparisons answer by a rank -/
theorem list_sortG {kd : SortKind} {Dm : Keyed → Prop} {r : Keyed → Int} {a : Addr} {vs : List Value} {n : Nat} {P : Fin → Shared → Prop} (ho : s.heap.get? a = some (seqObj "list" vs.toArray n)) (hlen : vs.length ≤ 16777216)
    (hkk : ∀ h', (∀ b o, b ≠ a → s.heap.get? b = some o → h'.get? b = some o) → 2 ≤ vs.length → ∀ Q : SortKind → Shared → Prop, Q kd { s with heap := h' } → wpAny (model prog w) A (keyKind' vs.toArray) Q E { s with heap := h' })
    (hR : ∀ h', (∀ b o, b ≠ a → s.heap.get? b = some o → h'.get? b = some o) → Ranks prog w A E { s with heap := h' } kd Dm r) (hD : ∀ v ∈ vs, Dm (v, v))
    (h : ∀ xs : Array Keyed, xs.Perm (pairsOf vs) → (∀ i j, i ≤ j → j < xs.size → r (F xs i) ≤ r (F xs j)) → P (.done (.ret .none)) { s with heap := sortedHeap s.heap a vs (xs.map (·.2)) }) :
    wpAny (model prog w) A (Builtin.«list.sort» ⟨[.ref a], []⟩) P E s := by
  rw [list_sort_plain]
  have ha : a < s.heap.objs.size := Heap.lt_size ho
  refine wpAny_bind (listItems_at ho rfl ?_)
  refine wpAny_bind (listUpdate_at ho rfl ?_ (hsz := by rw [List.size_toArray, sizeLine_eq]; exact hlen))
  obtain ⟨e1, ho1⟩ : ∃ e1, (s.heap.update a (Obj.mapSeq fun _ => #[])).get? a = some (seqObj "list" #[] e1) := ⟨_, get?_update_seq ho (fun _ => #[])⟩
  refine wpAny_bind (seqEpoch_at ho1 rfl ?_)
  refine wpAny_bind (wpAny_newTuple ?_ (by rw [sizeLine_eq]; exact hlen))
  refine wpAny_bind (wpAny_newList ?_)
  refine wpAny_holding ?_
  have ho6 : (((s.heap.update a (Obj.mapSeq fun _ => #[])).push (seqObj "tuple" vs.toArray 0)).push (seqObj "list" #[] 0)).get? a = some (seqObj "list" #[] e1) :=
    Heap.get?_push_of_some _ (Heap.get?_push_of_some _ ho1)
  have hkeep : ∀ b o, b ≠ a → s.heap.get? b = some o → (((s.heap.update a (Obj.mapSeq fun _ => #[])).push (seqObj "tuple" vs.toArray 0)).push (seqObj "list" #[] 0)).get? b = some o := fun b o hb e => by
    refine Heap.get?_push_of_some _ (Heap.get?_push_of_some _ ?_)
    rw [Heap.get?_update_ne _ _ _ _ hb]; exact e
  show wpAny (model prog w) A _ P E { s with heap := ((s.heap.update a (Obj.mapSeq fun _ => #[])).push (seqObj "tuple" vs.toArray 0)).push (seqObj "list" #[] 0) }
  dsimp only
  have hsz : vs.toArray.size = vs.length := by simp
  by_cases h2 : vs.toArray.size < 2
  · rw [if_pos h2, if_pos h2]
    refine wpAny_bind (wpAny_pure ?_)
    rw [StateT.run_pure]
    refine wpAny_bind (wpAny_pure ?_)
    dsimp only
    refine wpAny_bind (seqEpoch_at ho6 rfl ?_)
    refine wpAny_bind (listUpdate_at ho6 rfl ?_ (hsz2 := by rw [Array.size_map]; show (pairsOf vs).size ≤ _; rw [pairsOf_size, sizeLine_eq]; omega))
    simp only [bne_self_eq_false, Bool.false_eq_true, if_false]
    refine wpAny_pure (h (pairsOf vs) (Array.Perm.refl _) ?_)
    intro i j hij hj
    have : i = j := by rw [pairsOf_size] at hj; omega
    subst this; exact Int.le_refl _
  · rw [if_neg h2, if_neg h2]
    refine wpAny_bind (hkk _ hkeep (by omega) _ ?_)
    refine wpAny_bind (wpAny_mono (wpS_sortRunsG (hR _ hkeep) (a₀ := pairsOf vs) (st := SortSt.mk' kd (vs.toArray.zip vs.toArray) #[] 7 none)
      (Q := fun _ st' => (arrOf st').Perm (pairsOf vs) ∧ failedOf st' = none ∧ ND r st' 0 (pairsOf vs).size)
      (fun x hx => ?_) rfl rfl rfl (Array.Perm.refl _) (by rw [pairsOf_size]; omega) fun st' a1 a2 a3 => ⟨a1, a2, a3⟩) ?_ fun _ _ e => e)
    · obtain ⟨i, hi, rfl⟩ := List.getElem_of_mem hx
      unfold pairsOf at hi ⊢
      simp at hi ⊢
      exact hD _ (List.getElem_mem _)
    rintro ⟨⟨⟩, st'⟩ s' ⟨rfl, hp, hf, hs⟩
    dsimp only
    refine wpAny_bind (seqEpoch_at ho6 rfl ?_)
    refine wpAny_bind (listUpdate_at ho6 rfl ?_ (hsz2 := by refine Nat.le_trans (Nat.le_of_eq ((Array.size_map ..).trans (hp.size_eq.trans (pairsOf_size _)))) ?_; rw [sizeLine_eq]; omega))
    rw [hf]
    simp only [bne_self_eq_false, Bool.false_eq_true, if_false]
    exact wpAny_pure (h (arrOf st') hp fun i j hij hj => hs i j (Nat.zero_le _) hij (by rw [← hp.size_eq]; exact hj))

theorem ranks_int : Ranks prog w A E s oneType' (fun p => ∃ n t, p.1 = .int n t) (fun p => numOf p.1) := by
  rintro st ⟨x, p⟩ ⟨y, q⟩ Q hk ⟨n, t, hn⟩ ⟨m, u, hm⟩ h
  dsimp only at hn hm
  subst hn hm
  rw [lt'_eq]
  refine wpS_bind (wpS_get ?_)
  rw [hk, keyLt'_oneType]
  refine wpS_bind (wpS_lift (wpAny_attempt (oneLt_int ⟨rfl, ?_⟩)))
  exact wpS_pure h

theorem sortLtBig : SortLt 16777217 := fun prog w A E s a vs ns n P ho hI hlen h => by
  refine list_sortG ho (by omega) (fun h' hk h2 Q hq => ?_) (fun h' _ => ranks_int) (fun v hv => ?_) fun xs hp hs => ?_
  · match vs, h2, hI with
    | v₁ :: v₂ :: rest, _, hI => rw [keyKind_ints hI]; exact wpAny_pure hq
  · obtain ⟨i, hi, rfl⟩ := List.getElem_of_mem hv
    obtain ⟨t, ht⟩ := IntsAre.int_at hI i vs[i] (by simp [hi])
    exact ⟨_, _, ht⟩
  · have e : ∀ k, K xs k = numOf (F xs k).1 := fun k => by
      unfold K F
      cases xs[k]? <;> rfl
    obtain ⟨ns', h1, h2, h3⟩ := sorted_out hI hp fun i j hij hj => by
      rw [e, e]; exact hs i j hij (by rw [hp.size_eq]; exact hj)
    exact h _ ns' h1 h2 h3
end
end Mine
end

/-! # M10 -/
section
set_option autoImplicit false
set_option linter.unusedVariables false
namespace Mine
open PySem PySem.Calls PyProof.Rows

section
variable {c : Cx} {k : Nat} {env : Env} {ρ : Vars} {μ : Mem} {pos : Pos}

/-! ## an own list lent out -/
theorem Rc.lend {X : Addr → Prop} {s : Shared} {x : Str} {a : Addr} {ds : List D} (R : Rc c X env ρ μ s) (hx : ρ.lookup x = some (.raw (.ref a))) (hm : (a, ds) ∈ μ) :
    Rc c (fun b => X b ∧ b ≠ a) env ((x, .list ds) :: ρ) (dropM μ a) s := by
  obtain ⟨hXa, vs, ⟨o, e, hc, hdt, n, hd⟩, hr⟩ := R.mem a ds hm
  refine ⟨R.ok, R.base, fun b h => R.live b h.1, fun n' b h => ?_, R.apart, fun y d h => ?_, fun b es h => ?_⟩
  · obtain ⟨h1, h2, ov, h3⟩ := R.cel n' b h
    exact ⟨⟨h1, fun q => IsList_ne_Cell ⟨o, e, hc, n, hd⟩ (q ▸ h3) rfl⟩, h2, ov, h3⟩
  · rw [List.lookup_cons] at h
    cases hb : y == x with
    | true =>
      rw [hb] at h
      cases h
      obtain ⟨v, hv, r⟩ := R.vars x _ hx
      cases r
      rw [beq_iff_eq.mp hb]
      exact ⟨_, hv, .list (fun q => q.2 rfl) e hc hd (hr.weak fun _ q => q.1)⟩
    | false =>
      rw [hb] at h
      obtain ⟨v, hv, r⟩ := R.vars y d h
      exact ⟨v, hv, r.weak fun _ q => q.1⟩
  · obtain ⟨h1, h2⟩ := mem_dropM.mp h
    obtain ⟨q1, us, q2, q3⟩ := R.mem b es h1
    exact ⟨⟨q1, h2⟩, us, q2, q3.weak fun _ q => q.1⟩

theorem ev_lend {x : Str} {a : Addr} {ds : List D} {e : Expr} {d : D} (hx : ρ.lookup x = some (.raw (.ref a))) (hm : (a, ds) ∈ μ) (he : Ev c k env ((x, .list ds) :: ρ) (dropM μ a) e d) (hs : scalar d = true := by rfl) : Ev c k env ρ μ e d := fun X A s hA R E =>
  wpAny_mono (he _ A s hA (R.lend hx hm) E) (fun _ _ q => ⟨q.1, q.2.scalar hs⟩) fun _ _ e => e
theorem tr_lend {x : Str} {a : Addr} {ds : List D} {e : Expr} {b : Bool} (hx : ρ.lookup x = some (.raw (.ref a))) (hm : (a, ds) ∈ μ) (he : Tr c k env ((x, .list ds) :: ρ) (dropM μ a) e b) : Tr c k env ρ μ e b := fun X A s E hA R =>
  he _ A s E hA (R.lend hx hm)
theorem evF_lend {x : Str} {a : Addr} {ds es : List D} {e : Expr} (hx : ρ.lookup x = some (.raw (.ref a))) (hm : (a, ds) ∈ μ) (he : EvF c k env ((x, .list ds) :: ρ) (dropM μ a) e es) (hs : ∀ d ∈ es, scalar d = true) : EvF c k env ρ μ e es := fun X A s E hA R =>
  wpAny_mono (he _ A s E hA (R.lend hx hm)) (fun _ _ ⟨k', b, vs, q1, q2, q3, q4⟩ => ⟨k', b, vs, q1, q2, q3, q4.scalar hs⟩) fun _ _ e => e

/-- an item of an own list, from its end -/
theorem ev_itemMNeg {x : Str} {px : Pos} {i : Expr} {a : Addr} {ds : List D} {n : Int} {d : D} (hx : ρ.lookup x = some (.raw (.ref a))) (hm : (a, ds) ∈ μ) (hi : Ev c k env ρ μ i (.int n)) (h0 : n < 0) (h1 : -(ds.length : Int) ≤ n) (hd : ds[(n + ds.length).toNat]? = some d) (hlen : ds.length ≤ 16777216)
    (hdb : (x == ("__debug__" : Str)) = false := by decide) (hs : ∀ o v, subscripted i false o v = operate [o, v] (getItem o v) := by intro _ _; with_unfolding_all rfl) : Ev c k env ρ μ (.Subscript (.Name x px) i pos) d := by
  intro X A s hA R E
  refine Subscript_ (gives_bind (ev_name (k := k) hx hdb X A s hA R) fun v s₁ k₁ r₁ => gives_bind (hi X A s₁ hA (R.keep k₁.sub)) fun u s₂ k₂ r₂ => ?_)
  cases r₂
  cases r₁
  obtain ⟨_, vs, hl, hr⟩ := ((R.keep k₁.sub).keep k₂.sub).mem a ds hm
  have hv : vs.size = ds.length := by have := hr.length; simpa using this
  obtain ⟨y, hy, ry⟩ := hr.get hd
  exact tail_any hl.isList.typeIs slot_list_getitem.lookup (wpAny_getItem_list_neg hl.isList h0 (by rw [hv]; exact h1) (by omega) (by rw [hv]; simpa using hy) ⟨k₁.trans k₂, ry⟩) (hs _ _)

/-! ## more expressions -/
theorem ev_not {e : Expr} {b : Bool} (ha : Ev c k env ρ μ e (.bool b)) : Ev c k env ρ μ (.UnaryOp .Not e pos) (.bool (!b)) := by
  intro X A s hA R E
  show wpAny _ _ (do let v ← eval e env; standAt pos; holding [v] (unaryOp .Not v)) _ _ s
  refine wpAny_bind (gives_bind (ha X A s hA R) fun v s₁ k₁ r₁ => wpAny_bind (wpAny_standAt (wpAny_holding ?_)))
  cases r₁
  exact not_of (wpAny_truthy_bool ⟨k₁, .bool _⟩)
theorem ev_builtin {x : Str} {px : Pos} {v : Value} (hg : c.mg x = none) (hb : bootBuiltins x = some v) (hn : x ≠ "__name__" := by decide) (hx : env.kindOf x = some .globalImplicit := by rfl) (hd : (x == ("__debug__" : Str)) = false := by decide) : Ev c k env ρ μ (.Name x px) (.raw v) := by
  intro X A s hA R E
  exact name_builtin R hx hg hb hn ⟨Kp.refl s, .raw v⟩ hd

theorem ev_isList {x y : Str} {px py : Pos} {e : Expr} {ds : List D} (hg : c.mg x = none) (hb : bootBuiltins x = some (.builtin "isinstance")) (hg' : c.mg y = none) (hb' : bootBuiltins y = some (.type "list")) (he : Ev c k env ρ μ e (.list ds)) (hs : notStar e = true := by rfl)
    (hn : x ≠ "__name__" := by decide) (hn' : y ≠ "__name__" := by decide) (hx : env.kindOf x = some .globalImplicit := by rfl) (hx' : env.kindOf y = some .globalImplicit := by rfl) (hd : (x == ("__debug__" : Str)) = false := by decide) (hd' : (y == ("__debug__" : Str)) = false := by decide) :
    Ev c k env ρ μ (.Call (.Name x px) [e, .Name y py] [] pos) (.bool true) :=
  ev_callB hg hb (.cons he (.cons (ev_builtin hg' hb' hn' hx' hd') .nil rfl) hs) (fun X A s vs hA _ r E => by
    cases r with
    | cons r1 r2 =>
      cases r2 with
      | cons r2 r3 =>
        cases r3
        cases r2
        cases r1 with
        | list hX ho hc hd hr => exact call_isinstance (isinstance_true (Tx := "list") PySem.F.isi_meta_list (by rw [isSubtype_type]; kernel_rfl)) ⟨⟨_, ho, hc⟩, Kp.refl s, .bool _⟩) hn (by intro h; cases h) hx hd
theorem ev_isInt {x y : Str} {px py : Pos} {e : Expr} {n : Int} (hg : c.mg x = none) (hb : bootBuiltins x = some (.builtin "isinstance")) (hg' : c.mg y = none) (hb' : bootBuiltins y = some (.type "int")) (he : Ev c k env ρ μ e (.int n)) (hs : notStar e = true := by rfl)
    (hn : x ≠ "__name__" := by decide) (hn' : y ≠ "__name__" := by decide) (hx : env.kindOf x = some .globalImplicit := by rfl) (hx' : env.kindOf y = some .globalImplicit := by rfl) (hd : (x == ("__debug__" : Str)) = false := by decide) (hd' : (y == ("__debug__" : Str)) = false := by decide) :
    Ev c k env ρ μ (.Call (.Name x px) [e, .Name y py] [] pos) (.bool true) :=
  ev_callB hg hb (.cons he (.cons (ev_builtin hg' hb' hn' hx' hd') .nil rfl) hs) (fun X A s vs hA _ r E => by
    cases r with
    | cons r1 r2 =>
      cases r2 with
      | cons r2 r3 =>
        cases r3
        cases r2
        cases r1
        exact IsiPair.int_int ⟨Kp.refl s, .bool _⟩) hn (by intro h; cases h) hx hd
theorem ev_isBool {x y : Str} {px py : Pos} {e : Expr} {n : Int} (hg : c.mg x = none) (hb : bootBuiltins x = some (.builtin "isinstance")) (hg' : c.mg y = none) (hb' : bootBuiltins y = some (.type "bool")) (he : Ev c k env ρ μ e (.int n)) (hs : notStar e = true := by rfl)
    (hn : x ≠ "__name__" := by decide) (hn' : y ≠ "__name__" := by decide) (hx : env.kindOf x = some .globalImplicit := by rfl) (hx' : env.kindOf y = some .globalImplicit := by rfl) (hd : (x == ("__debug__" : Str)) = false := by decide) (hd' : (y == ("__debug__" : Str)) = false := by decide) :
    Ev c k env ρ μ (.Call (.Name x px) [e, .Name y py] [] pos) (.bool false) :=
  ev_callB hg hb (.cons he (.cons (ev_builtin hg' hb' hn' hx' hd') .nil rfl) hs) (fun X A s vs hA _ r E => by
    cases r with
    | cons r1 r2 =>
      cases r2 with
      | cons r2 r3 =>
        cases r3
        cases r2
        cases r1
        exact IsiPair.int_bool ⟨Kp.tok s _, .bool _⟩) hn (by intro h; cases h) hx hd

/-- list(e), a list of its own -/
theorem evF_listOf {x : Str} {px : Pos} {e : Expr} {ds : List D} (hg : c.mg x = none) (hb : bootBuiltins x = some (.type "list")) (he : Ev c k env ρ μ e (.list ds)) (hlen : ds.length ≤ 16777216) (hsc : ∀ d ∈ ds, scalar d = true) (hs : notStar e = true := by rfl) (hn : x ≠ "__name__" := by decide)
    (hx : env.kindOf x = some .globalImplicit := by rfl) (hd : (x == ("__debug__" : Str)) = false := by decide) : EvF c k env ρ μ (.Call (.Name x px) [e] [] pos) ds := by
  intro X A s E hA R
  refine Call_ (name_builtin R hx hg hb hn ?_ hd)
  refine callWith_plain R hA (.cons he .nil hs) (fun s' k' => ⟨.machine, .inr rfl, fun Q' hq => wpAny_pure hq⟩) (by intro h; cases h) fun vs s₁ k₁ r₁ => ?_
  cases r₁ with
  | cons r1 r2 =>
    cases r2
    cases r1 with
    | list hX ho hc hd hr =>
      rename_i a o vs n
      have hlv : vs.size = ds.length := by have := hr.length; simpa using this
      refine call_list_seq (hsz := by rw [hlv, sizeLine_eq]; exact hlen) a (.inl rfl) ho hc hd fun h' c' hk hD => ⟨k₁.trans (Kp.heap s₁ h' s₁.toks hk), _, vs, rfl, ?_, ⟨_, hD, rfl, rfl, _, rfl⟩, hr.scalar hsc⟩
      cases e' : s.heap.get? s₁.heap.objs.size with
      | none => rfl
      | some o => exact absurd (Heap.lt_size (k₁.sub _ o e')) (Nat.lt_irrefl _)

/-! ## calls that give a list of their own -/
def FnF (c : Cx) (k : Nat) (f : Addr) (ds : List D) (rs : List D) : Prop :=
  ∀ X A s vs E, Room k A → Sub c.base s.heap → (∀ a, X a → ∃ o, s.heap.get? a = some o) → RdAll X s.heap vs ds →
    wpAny (model c.prog c.w) A (call (.ref f) vs) (fun v s' => Kp s s' ∧ ∃ a ws, v = .ref a ∧ s.heap.get? a = none ∧ PL s'.heap a ws ∧ RdAll (fun b => X b ∨ b = a) s'.heap ws.toList rs) E s

theorem FnF.fn {f : Addr} {ds rs : List D} (h : FnF c k f ds rs) : Fn c k f ds (.list rs) := fun X A s vs hA hb hl hr E =>
  wpAny_mono (h X A s vs E hA hb hl hr) (fun v s' q => by
    obtain ⟨k', a, ws, rfl, hn, ⟨o, e, hc, hd, n, hdat⟩, hr⟩ := q
    refine ⟨k', .list (fun hx => ?_) e hc hdat (hr.weak fun _ h => .inl h)⟩
    obtain ⟨o, e⟩ := hl a hx; rw [hn] at e; cases e) fun _ _ e => e

theorem evF_call {x : Str} {px pos : Pos} {f : Addr} {st : Stmt} {args : List Expr} {ds rs : List D} (hg : c.mg x = some (.ref f)) (hf : FnAt c f st) (ha : EvAll c k env ρ μ args ds) (hF : FnF c k f ds rs) (hne : args ≠ [] := by intro h; cases h)
    (hx : env.kindOf x = some .globalImplicit := by rfl) (hd : (x == ("__debug__" : Str)) = false := by decide) : EvF c k env ρ μ (.Call (.Name x px) args [] pos) rs := by
  intro X A s E hA R
  refine Call_ (name_global R hx hg ?_ hd)
  obtain ⟨o, nm, qn, doc, pm, an, cdv, ct, ho, hd', hcd⟩ := hf
  refine callWith_plain R hA ha (fun s' k' => ⟨.frame, .inl rfl, fun Q' hq => ?_⟩) hne fun vs s₁ k₁ r₁ => ?_
  · unfold keeperOf
    refine wpAny_bind (wpAny_load (k'.sub _ _ (R.base _ _ ho)) ?_)
    rw [hd']; exact wpAny_pure hq
  · have R₁ := R.keep k₁.sub
    refine wpAny_mono (hF X A s₁ vs E hA R₁.base R₁.live r₁) (fun v s₂ q => ?_) fun _ _ e => e
    obtain ⟨k', a, ws, q1, q2, q3, q4⟩ := q
    refine ⟨k₁.trans k', a, ws, q1, ?_, q3, q4⟩
    cases e' : s.heap.get? a with
    | none => rfl
    | some o => have := k₁.sub a o e'; rw [q2] at this; cases this
end
end Mine
end

/-! # M11 -/
section
set_option autoImplicit false
set_option linter.unusedVariables false
namespace Mine
open PySem PySem.Calls PyProof.Rows

theorem fnF_of {c : Cx} {k : Nat} {f : Addr} {st : Stmt} {ds rs : List D} (hf : FnAt c f st) (hb : Binds st ds.length)
    (h : ∀ qn cdv L, Ex c k (fenv st qn cdv L f) ((namesOf st).zip ds).reverse [] (bodyOf st) (fun o _ μ => ∃ a, o = .ret (.raw (.ref a)) ∧ (a, rs) ∈ μ)) (ok : fnOk st = true := by rfl) : FnF c (k + 1) f ds rs := by
  intro X A s vs E hA hbase hlive hvs
  obtain ⟨o, nm, qn, doc, pm, an, cdv, ct, ho, hd, hcd⟩ := hf
  unfold fnOk at ok
  simp only [Bool.and_eq_true, beq_iff_eq, Bool.not_eq_true', List.all_eq_true, Bool.or_eq_true, bne_iff_ne] at ok
  obtain ⟨⟨⟨⟨k1, k2⟩, k3⟩, k4⟩, k5⟩ := ok
  have hlen := hvs.length
  have hsize : ∀ a : Nat, s.heap.objs.size ≤ a → s.heap.get? a = none := fun a ha => by
    cases e : s.heap.get? a with
    | none => rfl
    | some o => exact absurd (Heap.lt_size e) (Nat.not_lt.mpr ha)
  refine wpAny_call (codeAny_call_cells (binds := (namesOf st).zip vs) (body := bodyOf st) (by have := hA.depth; omega) (hbase f o ho) hd (c.nolimit.keeps hbase) (hcd.keeps hbase) rfl (hb nm qn doc pm an cdv ct vs hlen) rfl (fun x hx => ?_) (fun s₁ I => ?_) k2 k3 k1)
  · have hm : x.1 ∈ namesOf st := (List.of_mem_zip (a := x.1) (b := x.2) hx).1
    rcases k5 x.1 hm with q | q
    · exact .inl q
    · obtain ⟨a, ha⟩ := cf_has (scopeOf st).names (s.heap.objs.size + 1) [] x.1 (.inl (mem_lookup q))
      exact .inr ⟨q, by show ((cellsFrom _ (scopeOf st).names []).lookup x.1).isSome = true; rw [ha]; rfl⟩
  · have he : callEnvC (fnD st nm qn doc pm an cdv ct) s.heap.objs.size f = fenv st qn cdv s.heap.objs.size f := rfl
    rw [he] at I ⊢
    have I' := I.toInCall
    have hk₁ : Sub s.heap s₁.heap := I'.keep
    have newM : ∀ a, Mut (fenv st qn cdv s.heap.objs.size f) [] a → s.heap.get? a = none := fun a m => by
      rcases m with m | ⟨n, m⟩ | ⟨_, m⟩
      · exact hsize a (Nat.le_of_eq (Eq.symm m))
      · exact hsize a (Nat.le_of_lt (I.above n a (mem_of_lookup m)))
      · cases m
    have S₁ : St c X (fenv st qn cdv s.heap.objs.size f) ((namesOf st).zip ds).reverse [] s₁ := by
      refine ⟨⟨k1, rfl, rfl, fun n hn => ?_⟩, hbase.trans hk₁, fun a m => ?_, fun a h => ?_, ⟨_, I'.ns⟩, fun n a e => ⟨_, I.cell n a e⟩, fun n n' a e e' => ?_, fun x d e => ?_, fun a ds m => (nomatch m), List.nodup_nil, fun _ _ m => (nomatch m)⟩
      · rcases hn with q | q
        · exact cf_has _ _ _ _ (.inl (mem_lookup q))
        · exact absurd rfl (k4 _ (mem_lookup q))
      · cases e : c.base.get? a with
        | none => rfl
        | some o => have := newM a m; rw [hbase a o e] at this; cases this
      · obtain ⟨o, e⟩ := hlive a h; exact ⟨o, hk₁ a o e⟩
      · exact name_of_addr I.apart (mem_of_lookup e) (mem_of_lookup e')
      · obtain ⟨v, e1, e2⟩ := zip_look hvs e
        refine ⟨v, ?_, e2.mono fun a o n q => ⟨?_, hk₁ a o q⟩⟩
        · have hx : x ∈ namesOf st := by
            have : (x, v) ∈ ((namesOf st).zip vs).reverse := mem_of_lookup e1
            exact (List.of_mem_zip (List.mem_reverse.mp this)).1
          rcases k5 x hx with q | q
          · exact .inl ⟨q, _, I'.ns, by rw [bindL_eq q, e1]; rfl⟩
          · obtain ⟨a, ha⟩ := cf_has (scopeOf st).names (s.heap.objs.size + 1) [] x (.inl (mem_lookup q))
            refine .inr ⟨.inl q, a, ha, ?_⟩
            have := I.cell x a ha
            have hnl : (fenv st qn cdv s.heap.objs.size f).kindOf x ≠ some .local := by
              show (scopeOf st).names.lookup x ≠ _
              rw [q]; decide
            rw [bindC_eq hnl, e1] at this
            exact this
        · rintro (y | y)
          · exact n y
          · rw [newM a y] at q; cases q
    refine wpAny_mono (h qn cdv s.heap.objs.size X _ s₁ _ (hA.deeper _) S₁) (fun fl s₂ p => ?_) fun _ _ e => e
    obtain ⟨o', ρ', μ', a, S₂, g, q⟩ := p
    have hk : Kp s s₂ := by
      refine ⟨fun b o e => g.keep b o (fun m => by rw [newM b m] at e; cases e) (hk₁ b o e), ?_⟩
      obtain ⟨h1, t1, e1⟩ := I'.same
      exact Same.trans ⟨by rw [e1], by rw [e1]⟩ g.same
    obtain ⟨b, rfl, hm⟩ := q
    cases fl <;> first | exact a.elim | skip
    cases a
    obtain ⟨ws, hl, hr⟩ := S₂.mem b rs hm
    refine ⟨hk, b, ws, rfl, ?_, hl, hr.weak fun x hx => ?_⟩
    · rcases g.grow b rs hm with ⟨_, q⟩ | q
      · cases q
      · cases e : s.heap.get? b with
        | none => rfl
        | some o => rw [hk₁ b o e] at q; cases q
    · rcases hx with q | q
      · exact .inl q
      · exact .inr (.inr (.inr ⟨rs, q ▸ hm⟩))
end Mine
end

/-! # M12 -/
section
set_option autoImplicit false
set_option linter.unusedVariables false
namespace Mine
open PySem PySem.Calls PyProof.Rows

/-- at least these names -/
def Has (ρ₀ ρ : Vars) : Prop := ∀ x d, ρ₀.lookup x = some d → ρ.lookup x = some d
theorem Has.refl (ρ : Vars) : Has ρ ρ := fun _ _ e => e
theorem Has.trans {a b c : Vars} (x : Has a b) (y : Has b c) : Has a c := fun n d e => y n d (x n d e)
theorem Has.cons {ρ₀ ρ : Vars} (h : Has ρ₀ ρ) (x : Str) (d : D) : Has ((x, d) :: ρ₀) ((x, d) :: ρ) := fun y e q => by
  rw [List.lookup_cons] at q ⊢
  cases hb : y == x with
  | true => rw [hb] at q; exact q
  | false => rw [hb] at q; exact h y e q
/-- these names, each by a look -/
def hasAll (ρ₀ ρ : Vars) : Prop := ∀ p ∈ ρ₀, ρ.lookup p.1 = some p.2
theorem has_of {ρ₀ ρ : Vars} (h : hasAll ρ₀ ρ) : Has ρ₀ ρ := fun x d e => h (x, d) (mem_of_lookup e)
theorem hasAll_nil {ρ : Vars} : hasAll [] ρ := fun _ h => nomatch h
theorem hasAll_cons {ρ₀ ρ : Vars} {x : Str} {d : D} (h : ρ.lookup x = some d) (r : hasAll ρ₀ ρ) : hasAll ((x, d) :: ρ₀) ρ := fun p hp => by
  rcases List.mem_cons.mp hp with q | q
  · subst q; exact h
  · exact r p q

section
variable {c : Cx} {k : Nat} {env : Env} {ρ : Vars} {μ : Mem} {Q : Out → Vars → Mem → Prop}

theorem ex_has {ρ₀ : Vars} {ss : List Stmt} (h : Ex c k env ρ₀ μ ss Q) (hw : Has ρ₀ ρ) : Ex c k env ρ μ ss Q := ex_weak h hw

/-- the turns of a for, by what they keep -/
theorem turns_st {α σ : Type} {f : α → D} {x : Str} {body : List Stmt} (V : σ → Vars) (U : σ → Mem) (J : List α → σ → Prop)
    (step : ∀ a rest t, J (a :: rest) t → Ex c k env ((x, f a) :: V t) (U t) body (fun o ρ' μ' => match o with
      | .next | .cont => ∃ t', J rest t' ∧ Has (V t') ρ' ∧ μ' = U t'
      | .brk => Q .next ρ' μ'
      | .ret d => Q (.ret d) ρ' μ'))
    (fin : ∀ t ρ', J [] t → Has (V t) ρ' → Q .next ρ' (U t)) : ∀ (l : List α) (t : σ) (ρ : Vars), J l t → Has (V t) ρ → Turns c k env x body Q (l.map f) ρ (U t)
  | [], t, ρ, hJ, hρ => fin t ρ hJ hρ
  | a :: l, t, ρ, hJ, hρ => by
    refine ex_mono (ex_has (step a l t hJ) (hρ.cons x (f a))) fun o ρ' μ' q => ?_
    cases o with
    | next => obtain ⟨t', q1, q2, q3⟩ := q; subst q3; exact turns_st V U J step fin l t' ρ' q1 q2
    | cont => obtain ⟨t', q1, q2, q3⟩ := q; subst q3; exact turns_st V U J step fin l t' ρ' q1 q2
    | brk => exact q
    | ret d => exact q

theorem while_st {σ : Type} {test : Expr} {body : List Stmt} {pos : Pos} (V : σ → Vars) (U : σ → Mem) (J : Nat → σ → Prop) {n : Nat} {t : σ} (h0 : J n t) (hρ : Has (V t) ρ) (hμ : μ = U t)
    (turn : ∀ n t, J n t → ∃ b, Tr c k env (V t) (U t) test b ∧ (b = true → Ex c k env (V t) (U t) body (fun o ρ' μ' => match o with
      | .next | .cont => ∃ m t', m < n ∧ J m t' ∧ Has (V t') ρ' ∧ μ' = U t'
      | .brk => Q .next ρ' μ'
      | .ret d => Q (.ret d) ρ' μ')) ∧ (b = false → ∀ ρ', Has (V t) ρ' → Q .next ρ' (U t))) : Ex1 c k env ρ μ (.While test body [] pos) Q := by
  refine ex_while (fun n ρ μ => ∃ t, J n t ∧ Has (V t) ρ ∧ μ = U t) n ⟨t, h0, hρ, hμ⟩ ?_
  rintro n ρ μ ⟨t, hJ, hρ, rfl⟩
  obtain ⟨b, ht, h1, h2⟩ := turn n t hJ
  refine ⟨b, fun X A s E hA R => ht X A s E hA { R with vars := fun x d e => R.vars x d (hρ x d e) }, fun hb => ?_, fun hb => h2 hb ρ hρ⟩
  refine ex_mono (ex_has (h1 hb) hρ) fun o ρ' μ' q => ?_
  cases o with
  | next => obtain ⟨m, t', q0, q1, q2, q3⟩ := q; exact ⟨m, q0, t', q1, q2, q3⟩
  | cont => obtain ⟨m, t', q0, q1, q2, q3⟩ := q; exact ⟨m, q0, t', q1, q2, q3⟩
  | brk => exact q
  | ret d => exact q

/-! ## comprehensions over what is told apart -/
open Classical in
noncomputable def liftP {α : Type} (g : α → D) (p : α → Bool) (d : D) : Bool := decide (∃ a, g a = d ∧ p a = true)
open Classical in
noncomputable def liftF {α β : Type} (g : α → D) (h : β → D) (f : α → β) (d : D) : D := if e : ∃ a, g a = d then h (f e.choose) else .none
theorem liftP_eq {α : Type} {g : α → D} (hg : ∀ a b, g a = g b → a = b) (p : α → Bool) (a : α) : liftP g p (g a) = p a := by
  unfold liftP
  cases hp : p a with
  | true => simp only [decide_eq_true_eq]; exact ⟨a, rfl, hp⟩
  | false => simp only [decide_eq_false_iff_not]; rintro ⟨b, e, hb⟩; rw [hg _ _ e, hp] at hb; cases hb
theorem liftF_eq {α β : Type} {g : α → D} (hg : ∀ a b, g a = g b → a = b) (h : β → D) (f : α → β) (a : α) : liftF g h f (g a) = h (f a) := by
  unfold liftF
  have e : ∃ b, g b = g a := ⟨a, rfl⟩
  rw [dif_pos e, hg _ _ e.choose_spec]
theorem lift_list {α β : Type} {g : α → D} (hg : ∀ a b, g a = g b → a = b) (h : β → D) (f : α → β) (p : α → Bool) : ∀ l : List α, ((l.map g).filter (liftP g p)).map (liftF g h f) = ((l.filter p).map f).map h
  | [] => rfl
  | a :: l => by
    rw [List.map_cons, List.filter_cons, List.filter_cons, liftP_eq hg]
    split
    · rw [List.map_cons, List.map_cons, List.map_cons, liftF_eq hg, lift_list hg h f p l]
    · exact lift_list hg h f p l

theorem ev_compM {α β : Type} {g : α → D} {h : β → D} {l : List α} {p : α → Bool} {f : α → β} {elt iter : Expr} {ifs : List Expr} {scope : Scope} {x : Str} {px pos : Pos} (hg : ∀ a b, g a = g b → a = b) (src : Src c k env ρ μ iter (l.map g))
    (tests : ∀ C cl a, a ∈ l → Tests c k (cenvOf scope env C cl) ((x, g a) :: capt scope ρ) ifs (p a))
    (elts : ∀ C cl a, a ∈ l → p a = true → Ev c k (cenvOf scope env C cl) ((x, g a) :: capt scope ρ) [] elt (h (f a))) (hlen : l.length ≤ 16777216)
    (ok : compOk scope env x = true := by rfl) (hs : ∀ x, foldedSetIterable iter env x = pure x := by intro _; rfl) : Ev c k env ρ μ (.ListComp elt [⟨.Name x px, iter, ifs, 0⟩] scope pos) (.list (((l.filter p).map f).map h)) := by
  rw [← lift_list hg h f p l]
  refine ev_comp src (fun C cl d hd => ?_) (fun C cl d hd hp => ?_) (by simpa using hlen) ok hs
  · obtain ⟨a, ha, rfl⟩ := List.mem_map.mp hd
    rw [liftP_eq hg]; exact tests C cl a ha
  · obtain ⟨a, ha, rfl⟩ := List.mem_map.mp hd
    rw [liftP_eq hg] at hp
    rw [liftF_eq hg]; exact elts C cl a ha hp
theorem ex_assign_compM {α β : Type} {g : α → D} {h : β → D} {l : List α} {p : α → Bool} {f : α → β} {elt iter : Expr} {ifs : List Expr} {scope : Scope} {x y : Str} {px py pos spos : Pos} (hg : ∀ a b, g a = g b → a = b) (src : Src c k env ρ μ iter (l.map g))
    (tests : ∀ C cl a, a ∈ l → Tests c k (cenvOf scope env C cl) ((x, g a) :: capt scope ρ) ifs (p a))
    (elts : ∀ C cl a, a ∈ l → p a = true → Ev c k (cenvOf scope env C cl) ((x, g a) :: capt scope ρ) [] elt (h (f a))) (hlen : l.length ≤ 16777216)
    (hq : Q .next ((y, .list (((l.filter p).map f).map h)) :: ρ) μ)
    (hsw : swapsWith (.ListComp elt [⟨.Name x px, iter, ifs, 0⟩] scope pos) (some (.Name y py)) spos.line env = pure true := by rfl) (hy : stor env y = true := by rfl)
    (ok : compOk scope env x = true := by rfl) (hs : ∀ x, foldedSetIterable iter env x = pure x := by intro _; rfl) :
    Ex1 c k env ρ μ (.Assign [.Name y py] (.ListComp elt [⟨.Name x px, iter, ifs, 0⟩] scope pos) spos) Q := by
  rw [← lift_list hg h f p l] at hq
  refine ex_assign_comp src (fun C cl d hd => ?_) (fun C cl d hd hp => ?_) (by simpa using hlen) hq hsw hy ok hs
  · obtain ⟨a, ha, rfl⟩ := List.mem_map.mp hd
    rw [liftP_eq hg]; exact tests C cl a ha
  · obtain ⟨a, ha, rfl⟩ := List.mem_map.mp hd
    rw [liftP_eq hg] at hp
    rw [liftF_eq hg]; exact elts C cl a ha hp
theorem inj_int : ∀ a b : Int, D.int a = D.int b → a = b := fun _ _ h => D.int.inj h
theorem inj_list {α : Type} {g : α → D} (hg : ∀ a b, g a = g b → a = b) : ∀ a b : List α, D.list (a.map g) = D.list (b.map g) → a = b := fun a b h => (List.map_inj_right (fun x y => hg x y)).mp (D.list.inj h)
theorem inj_I : ∀ a b : List Int, I a = I b → a = b := inj_list inj_int
end
end Mine
end

/-! # L4a -/
section
open PySem PySem.Calls PyProof.Rows
set_option autoImplicit false
set_option linter.unusedVariables false
namespace Mine
def st (i : Nat) : Stmt := (PySem.Challenge.pw_uf060024_04.main.body)[i]?.getD (.Pass ⟨0,0,0,0⟩)
theorem boot_len : bootBuiltins "len" = some (.builtin "len") := by decide +kernel
theorem boot_list : bootBuiltins "list" = some (.type "list") := by decide +kernel
theorem boot_range : bootBuiltins "range" = some (.type "range") := by decide +kernel
theorem boot_set : bootBuiltins "set" = some (.type "set") := by decide +kernel
theorem boot_sorted : bootBuiltins "sorted" = some (.builtin "sorted") := by decide +kernel
theorem boot_isi : bootBuiltins "isinstance" = some (.builtin "isinstance") := by decide +kernel
theorem boot_int : bootBuiltins "int" = some (.type "int") := by decide +kernel
theorem boot_bool : bootBuiltins "bool" = some (.type "bool") := by decide +kernel

abbrev Rule := List Int × List Int
abbrev PR (p : Rule) : D := .tuple [I p.1, I p.2]
abbrev RS (l : List Rule) : D := .list (l.map PR)
theorem enc_PR : Enc PR 2 := enc_pair enc_I enc_I
theorem enc_RS : Enc RS 3 := enc_list enc_PR
theorem inj_PR : ∀ a b : Rule, PR a = PR b → a = b := fun a b h => by
  have h := D.tuple.inj h
  simp only [List.cons.injEq, and_true] at h
  exact Prod.ext (inj_I _ _ h.1) (inj_I _ _ h.2)

section
variable {c : Cx} {f : Addr}

theorem cell_at_ok (hf : FnAt c f (st 7)) (hlen : c.mg "len" = none) {ns : List Int} {i : Int} (h0 : 0 ≤ i) (hl : ns.length ≤ 63) : Fn c 1 f [I ns, .int i] (.int (ns.getD i.toNat 0)) := by
  refine fn_of hf (fun nm qn doc pm an cdv ct vs h => match vs, h with | [a, b], _ => rfl) (fun qn cdv L => ?_)
  refine ex_seq (ex_if (tr_cmp (ev_name rfl rfl) (ev_len hlen boot_len (ev_name rfl rfl) (by simp; omega)) (fun X A s v u hA h1 h2 => cmp_lt h1 h2)) (fun hb => ?_) (fun hb => ?_))
  · have hb' : i < (ns.length : Int) := by simpa using hb
    refine ex_seq (ex_return (ev_item (ev_name rfl rfl) (ev_name rfl rfl) h0 (d := .int (ns.getD i.toNat 0)) ?_ (by simp; omega)) rfl)
    have : i.toNat < ns.length := by omega
    simp [this]
  · have hb' : ¬ i < (ns.length : Int) := by simpa using hb
    refine ex_nil ?_
    refine ex_seq (ex_return ev_int ?_)
    have : ns.length ≤ i.toNat := by omega
    simp [retOf, this]

/-! ## has_all, met -/
def hasB (ns ms : List Int) : Bool := ms.all fun m => decide (m ∈ ns)
theorem has_all_ok (hf : FnAt c f (st 1)) (ns ms : List Int) : Fn c 1 f [I ns, I ms] (.bool (hasB ns ms)) := by
  refine fn_of hf (fun nm qn doc pm an cdv ct vs h => match vs, h with | [a, b], _ => rfl) (fun qn cdv L => ?_)
  refine ex_seq (ex_for (ds := ms.map .int) (src_list (ev_name rfl rfl)) ?_)
  refine turns_st (σ := Unit) (fun _ => [("numbers", I ns)]) (fun _ => []) (fun l _ => hasB ns ms = hasB ns l) ?_ ?_ ms () _ rfl (has_of (hasAll_cons rfl hasAll_nil))
  · intro a rest t hJ
    refine ex_seq (ex_if (tr_cmp (ev_name rfl rfl) (ev_name rfl rfl) fun X A s v u hA h1 h2 => cmp_NotIn enc_int (by decide) (a := a) (l := ns) hA h1 h2) (fun hb => ?_) (fun hb => ?_))
    · refine ex_seq (ex_return ev_bool ?_)
      simp at hb
      rw [hJ]; simp [retOf, hasB, hb]
    · refine ex_nil (ex_nil ⟨(), ?_, has_of (hasAll_cons rfl hasAll_nil), rfl⟩)
      simp at hb
      rw [hJ]; simp [hasB, hb]
  · intro t ρ' hJ hρ
    refine ex_has ?_ hρ
    refine ex_seq (ex_return ev_bool ?_)
    rw [hJ]; simp [retOf, hasB]

def metB (p : Rule) (ms : List Int) : Bool := !hasB ms p.1 || hasB ms p.2
theorem met_ok {fh : Addr} (hf : FnAt c f (st 3)) (hh : FnAt c fh (st 1)) (hg : c.mg "has_all" = some (.ref fh)) (p : Rule) (ms : List Int) : Fn c 2 f [PR p, I ms] (.bool (metB p ms)) := by
  refine fn_of hf (fun nm qn doc pm an cdv ct vs h => match vs, h with | [a, b], _ => rfl) (fun qn cdv L => ?_)
  refine ex_seq (ex_return (d := .bool (metB p ms)) (ev_or (a := !hasB ms p.1)
    (ev_not (ev_call hg hh (.cons (ev_name rfl rfl) (.cons (ev_itemT (ev_name rfl rfl) ev_int (by decide) (by decide) rfl) .nil rfl) rfl) (has_all_ok hh ms p.1)))
    (fun hb => ev_bool1 (ev_call hg hh (.cons (ev_name rfl rfl) (.cons (ev_itemT (ev_name rfl rfl) ev_int (by decide) (by decide) rfl) .nil rfl) rfl) ?_)) (fun hb => by simp [metB, hb])) rfl)
  have : metB p ms = hasB ms p.2 := by simp [metB, hb]
  rw [this]; exact has_all_ok hh ms p.2

theorem whole_ok (hf : FnAt c f (st 6)) (h1 : c.mg "isinstance" = none) (h2 : c.mg "int" = none) (h3 : c.mg "bool" = none) (n : Int) : Fn c 1 f [.int n] (.bool true) := by
  refine fn_of hf (fun nm qn doc pm an cdv ct vs h => match vs, h with | [a], _ => rfl) (fun qn cdv L => ?_)
  refine ex_seq (ex_return (d := .bool true) (ev_and (a := true) (ev_isInt h1 boot_isi h2 boot_int (ev_name rfl rfl)) (fun _ => ev_bool1 (ev_not (b := false) (ev_isBool h1 boot_isi h3 boot_bool (ev_name rfl rfl)))) (by simp)) rfl)

theorem lacks_ok (hf : FnAt c f (st 10)) (one other : List Int) (hl : one.length ≤ 16777216) : Fn c 1 f [I one, I other] (I (one.filter fun m => !decide (m ∈ other))) := by
  refine fn_of hf (fun nm qn doc pm an cdv ct vs h => match vs, h with | [a, b], _ => rfl) (fun qn cdv L => ?_)
  refine ex_seq (ex_return (d := I (one.filter fun m => !decide (m ∈ other))) ?_ rfl)
  have e : I (one.filter fun m => !decide (m ∈ other)) = .list (((one.filter fun m => !decide (m ∈ other)).map id).map .int) := by simp
  rw [e]
  refine ev_compM (g := D.int) (h := D.int) (l := one) (p := fun m => !decide (m ∈ other)) (f := id) inj_int (src_list (ev_name rfl rfl)) (fun C cl a ha => tests_one ?_) (fun C cl a ha hp => ev_name rfl rfl) hl
  exact tr_cmp (ev_name rfl rfl) (ev_name rfl rfl) fun X A s v u hA h1 h2 => cmp_NotIn enc_int (by decide) (a := a) (l := other) hA h1 h2
end
end Mine
end

/-! # L4b -/
section
open PySem PySem.Calls PyProof.Rows
set_option autoImplicit false
set_option linter.unusedVariables false
namespace Mine

/-! ## what follows from marks by rules, plain -/
inductive Der (rs : List Rule) (ms : List Int) : Int → Prop
  | base {k : Int} : k ∈ ms → Der rs ms k
  | step {k : Int} {p : Rule} : p ∈ rs → (∀ j ∈ p.1, Der rs ms j) → k ∈ p.2 → Der rs ms k
def univ (rs : List Rule) (ms : List Int) : List Int := ms ++ rs.flatMap (·.2)
theorem der_mem {rs : List Rule} {ms : List Int} {k : Int} (h : Der rs ms k) : k ∈ univ rs ms := by
  cases h with
  | base h => exact List.mem_append_left _ h
  | step h1 _ h3 => exact List.mem_append_right _ (List.mem_flatMap.mpr ⟨_, h1, h3⟩)
theorem der_in {rs : List Rule} {ms l : List Int} (h1 : ∀ k ∈ ms, k ∈ l) (h2 : ∀ p ∈ rs, (∀ j ∈ p.1, j ∈ l) → ∀ k ∈ p.2, k ∈ l) {k : Int} (h : Der rs ms k) : k ∈ l := by
  induction h with
  | base h => exact h1 _ h
  | step hp _ hk ih => exact h2 _ hp ih _ hk
open Classical in
noncomputable def clo (rs : List Rule) (ms : List Int) : List Int := norm ((univ rs ms).filter fun k => decide (Der rs ms k))
theorem mem_clo {rs : List Rule} {ms : List Int} {k : Int} : k ∈ clo rs ms ↔ Der rs ms k := by
  unfold clo
  rw [mem_norm, List.mem_filter]
  simp only [decide_eq_true_eq]
  exact ⟨fun h => h.2, fun h => ⟨der_mem h, h⟩⟩
theorem clo_lt (rs : List Rule) (ms : List Int) : (clo rs ms).Pairwise (· < ·) := norm_lt _
theorem hasB_iff {ns ms : List Int} : hasB ns ms = true ↔ ∀ m ∈ ms, m ∈ ns := by unfold hasB; simp
theorem metB_iff {p : Rule} {l : List Int} : metB p l = true ↔ ((∀ j ∈ p.1, j ∈ l) → ∀ k ∈ p.2, k ∈ l) := by
  unfold metB
  cases h : hasB l p.1 with
  | true => simp only [Bool.not_true, Bool.false_or, hasB_iff]; exact ⟨fun q _ => q, fun q => q (hasB_iff.mp h)⟩
  | false =>
    simp only [Bool.not_false, Bool.true_or, true_iff]
    intro q; rw [hasB_iff.mpr q] at h; cases h

structure Gi (rs : List Rule) (ms fd : List Int) : Prop where
  lt : fd.Pairwise (· < ·)
  base : ∀ k ∈ ms, k ∈ fd
  der : ∀ k ∈ fd, Der rs ms k
theorem Gi.len {rs : List Rule} {ms fd : List Int} (h : Gi rs ms fd) : fd.length ≤ (univ rs ms).length := nodup_len (h.lt.imp fun q => by omega) fun k hk => der_mem (h.der k hk)
theorem Gi.start (rs : List Rule) (ms : List Int) : Gi rs ms (norm ms) := ⟨norm_lt _, fun k h => mem_norm.mpr h, fun k h => .base (mem_norm.mp h)⟩
theorem Gi.fin {rs : List Rule} {ms fd : List Int} (h : Gi rs ms fd) (hm : ∀ p ∈ rs, metB p fd = true) : fd = clo rs ms :=
  lt_ext h.lt (clo_lt rs ms) fun k => ⟨fun q => mem_clo.mpr (h.der k q), fun q => der_in h.base (fun p hp => metB_iff.mp (hm p hp)) (mem_clo.mp q)⟩
theorem Gi.step {rs : List Rule} {ms fd : List Int} {p : Rule} (h : Gi rs ms fd) (hp : p ∈ rs) (hm : metB p fd = false) : Gi rs ms (norm (fd ++ p.2)) ∧ fd.length < (norm (fd ++ p.2)).length := by
  have h1 : hasB fd p.1 = true ∧ hasB fd p.2 = false := by
    unfold metB at hm
    cases a : hasB fd p.1 <;> cases b : hasB fd p.2 <;> simp [a, b] at hm ⊢
  have hin := hasB_iff.mp h1.1
  refine ⟨⟨norm_lt _, fun k hk => mem_norm.mpr (List.mem_append_left _ (h.base k hk)), fun k hk => ?_⟩, ?_⟩
  · rcases List.mem_append.mp (mem_norm.mp hk) with q | q
    · exact h.der k q
    · exact .step hp (fun j hj => h.der j (hin j hj)) q
  · obtain ⟨k, hk1, hk2⟩ : ∃ k ∈ p.2, k ∉ fd := by
      refine Classical.byContradiction fun q => ?_
      have : hasB fd p.2 = true := hasB_iff.mpr fun m hm => Classical.byContradiction fun q' => q ⟨m, hm, q'⟩
      rw [this] at h1; exact absurd h1.2 (by decide)
    have : (k :: fd).length ≤ (norm (fd ++ p.2)).length := by
      refine nodup_len (List.nodup_cons.mpr ⟨hk2, h.lt.imp fun q => by omega⟩) fun x hx => mem_norm.mpr ?_
      rcases List.mem_cons.mp hx with q | q
      · subst q; exact List.mem_append_right _ hk1
      · exact List.mem_append_left _ q
    exact this
theorem univ_rhs {rs : List Rule} {ms : List Int} {p : Rule} (hp : p ∈ rs) : p.2.length ≤ (univ rs ms).length := by
  unfold univ
  rw [List.length_append, List.length_flatMap]
  have : p.2.length ≤ (rs.map fun q => q.2.length).sum := by
    induction rs with
    | nil => cases hp
    | cons q rs ih =>
      rw [List.map_cons, List.sum_cons]
      rcases List.mem_cons.mp hp with e | e
      · subst e; omega
      · have := ih e; omega
  omega

theorem ints_scalar {l : List Int} : ∀ d ∈ l.map D.int, scalar d = true := fun d hd => by obtain ⟨n, _, rfl⟩ := List.mem_map.mp hd; rfl

section
variable {c : Cx} {f : Addr}
structure GT where
  fd : List Int
  a : Addr
  more : Bool
  junk : Mem

theorem grown_ok {fm : Addr} (hf : FnAt c f (st 4)) (hm : FnAt c fm (st 3)) {fh : Addr} (hh : FnAt c fh (st 1)) (g1 : c.mg "has_all" = some (.ref fh)) (g2 : c.mg "met" = some (.ref fm))
    (g3 : c.mg "sorted" = none) (g4 : c.mg "set" = none) (g5 : c.mg "list" = none) (rs : List Rule) (ms : List Int) (hB : (univ rs ms).length ≤ 400) : FnF c 3 f [RS rs, I ms] ((clo rs ms).map .int) := by
  have hms : ms.length ≤ (univ rs ms).length := by unfold univ; simp
  refine fnF_of hf (fun nm qn doc pm an cdv ct vs h => match vs, h with | [a, b], _ => rfl) (fun qn cdv L => ?_)
  refine ex_seq (ex_assignF (evF_sortedSet sortLtBig (S := ms) g3 boot_sorted g4 boot_set (ev_name rfl rfl) (by omega) (by have := norm_length_le ms; omega)) fun a ha => ?_)
  refine ex_seq (ex_assign ev_bool ?_)
  refine ex_seq (while_st (σ := GT) (fun t => [("found", .raw (.ref t.a)), ("more", .bool t.more), ("rules", RS rs)]) (fun t => (t.a, t.fd.map .int) :: t.junk)
    (fun n t => Gi rs ms t.fd ∧ 2 * ((univ rs ms).length - t.fd.length) + (if t.more then 1 else 0) ≤ n ∧ (t.more = false → ∀ p ∈ rs, metB p t.fd = true))
    (n := 2 * (univ rs ms).length + 1) (t := ⟨norm ms, a, true, []⟩) ⟨Gi.start rs ms, by simp; omega, by simp⟩ (has_of (hasAll_cons rfl (hasAll_cons rfl (hasAll_cons rfl hasAll_nil)))) rfl ?_)
  rintro n ⟨fd, a, more, junk⟩ ⟨hG, hn, hmet⟩
  dsimp only at hG hn hmet ⊢
  refine ⟨more, tr_plain (ev_name rfl rfl), fun hb => ?_, fun hb ρ' hρ => ?_⟩
  · subst hb
    refine ex_seq (ex_assign ev_bool ?_)
    refine ex_seq (ex_for (ds := rs.map PR) (src_list (ev_name rfl rfl)) ?_)
    refine turns_st (σ := GT) (fun t => [("found", .raw (.ref t.a)), ("more", .bool t.more), ("rules", RS rs)]) (fun t => (t.a, t.fd.map .int) :: t.junk)
      (fun l t => Gi rs ms t.fd ∧ ∃ done, rs = done ++ l ∧ (t.more = false → t.fd = fd ∧ ∀ p ∈ done, metB p fd = true) ∧ (t.more = true → fd.length < t.fd.length))
      ?_ ?_ rs ⟨fd, a, false, junk⟩ _ ⟨hG, [], rfl, fun _ => ⟨rfl, fun _ h => nomatch h⟩, by simp⟩ (has_of (hasAll_cons rfl (hasAll_cons rfl (hasAll_cons rfl hasAll_nil))))
    · rintro p rest ⟨fd', a', more', junk'⟩ ⟨hG', done, hrs, h1, h2⟩
      dsimp only at hG' h1 h2 ⊢
      have hp : p ∈ rs := by rw [hrs]; simp
      refine ex_seq (ex_if (b := !metB p fd') (tr_lend (x := "found") (a := a') (ds := fd'.map .int) rfl (.head _) (tr_not (tr_plain (ev_call g2 hm (.cons (ev_name rfl rfl) (.cons (ev_name rfl rfl) .nil rfl) rfl) (met_ok hm hh g1 p fd'))))) (fun hb => ?_) (fun hb => ?_))
      · have hb' : metB p fd' = false := by simpa using hb
        obtain ⟨hG2, hlt⟩ := hG'.step hp hb'
        have hl1 := hG'.len
        have hl2 := univ_rhs (ms := ms) hp
        refine ex_seq (ex_assignF (ds := (norm (fd' ++ p.2)).map .int) (evF_lend (x := "found") (a := a') (ds := fd'.map .int) rfl (.head _)
          (evF_sortedSet sortLtBig (S := fd' ++ p.2) g3 boot_sorted g4 boot_set (by rw [List.map_append]; exact ev_catL (ev_name rfl rfl) (ev_listOf g5 boot_list (ev_itemT (ev_name rfl rfl) ev_int (by decide) (by decide) rfl) (by simp; omega)) (by simp; omega)) (by simp; omega) (by have := hG2.len; omega)) ints_scalar) fun a2 ha2 => ?_)
        refine ex_seq (ex_assign ev_bool ?_)
        refine ex_nil (ex_nil ⟨⟨norm (fd' ++ p.2), a2, true, (a', fd'.map .int) :: junk'⟩, ⟨hG2, done ++ [p], by simp [hrs], by simp, fun _ => ?_⟩, has_of (hasAll_cons rfl (hasAll_cons rfl (hasAll_cons rfl hasAll_nil))), rfl⟩)
        dsimp only
        cases more' with
        | true => have := h2 rfl; omega
        | false => rw [(h1 rfl).1] at hlt; rw [(h1 rfl).1]; exact hlt
      · have hb' : metB p fd' = true := by simpa using hb
        refine ex_nil (ex_nil ⟨⟨fd', a', more', junk'⟩, ⟨hG', done ++ [p], by simp [hrs], fun hm' => ⟨(h1 hm').1, fun q hq => ?_⟩, h2⟩, has_of (hasAll_cons rfl (hasAll_cons rfl (hasAll_cons rfl hasAll_nil))), rfl⟩)
        rcases List.mem_append.mp hq with d | d
        · exact (h1 hm').2 q d
        · rw [List.mem_singleton] at d; subst d; rw [← (h1 hm').1]; exact hb'
    · rintro ⟨fd', a', more', junk'⟩ ρ' ⟨hG', done, hrs, h1, h2⟩ hρ
      dsimp only at hG' h1 h2 hρ ⊢
      have hd : rs = done := by simpa using hrs
      refine ex_nil ⟨2 * ((univ rs ms).length - fd'.length) + (if more' then 1 else 0), ⟨fd', a', more', junk'⟩, ?_, ⟨hG', Nat.le_refl _, fun hm' p hp => ?_⟩, hρ, rfl⟩
      · have hl1 := hG'.len
        simp only [if_true] at hn
        cases more' with
        | true => have := h2 rfl; simp only [if_true]; omega
        | false => have := (h1 rfl).1; subst this; simp only [Bool.false_eq_true, if_false]; omega
      · dsimp only at hm' ⊢
        rw [(h1 hm').1]; exact (h1 hm').2 p (hd ▸ hp)
  · refine ex_has ?_ hρ
    have e := hG.fin (hmet hb)
    subst e
    exact ex_seq (ex_return (ev_name rfl rfl) ⟨a, rfl, .head _⟩)
end
end Mine
end

/-! # L4c -/
section
open PySem PySem.Calls PyProof.Rows
set_option autoImplicit false
set_option linter.unusedVariables false
namespace Mine

/-! ## put_to, plain -/
def lackL (one other : List Int) : List Int := one.filter fun m => !decide (m ∈ other)
def putStep (fd : List Int) (p : Rule) : List Int := if lackL p.1 fd = [] then fd ++ lackL p.2 fd else fd
def putPass (rs : List Rule) (fd : List Int) : List Int := rs.foldl putStep fd
def put : Nat → List Rule → List Int → List Int
  | 0, _, fd => fd
  | n + 1, rs, fd => if fd.length < (putPass rs fd).length then put n rs (putPass rs fd) else fd
theorem lack_nil {one other : List Int} : lackL one other = [] ↔ ∀ k ∈ one, k ∈ other := by unfold lackL; simp [List.filter_eq_nil_iff]
theorem mem_lack {one other : List Int} {k : Int} : k ∈ lackL one other ↔ k ∈ one ∧ k ∉ other := by unfold lackL; simp

structure Pi (rs : List Rule) (ms fd : List Int) : Prop where
  base : ∀ k ∈ ms, k ∈ fd
  der : ∀ k ∈ fd, Der rs ms k
  len : fd.length ≤ ms.length + 400 * (norm fd).length
theorem norm_mono {l m : List Int} (h : ∀ k ∈ l, k ∈ m) : (norm l).length ≤ (norm m).length := nodup_len ((norm_lt l).imp fun q => by omega) fun k hk => mem_norm.mpr (h k (mem_norm.mp hk))
theorem norm_strict {l m : List Int} (h : ∀ k ∈ l, k ∈ m) {x : Int} (h1 : x ∈ m) (h2 : x ∉ l) : (norm l).length < (norm m).length := by
  have : (x :: norm l).length ≤ (norm m).length := by
    refine nodup_len (List.nodup_cons.mpr ⟨fun q => h2 (mem_norm.mp q), (norm_lt l).imp fun q => by omega⟩) fun k hk => mem_norm.mpr ?_
    rcases List.mem_cons.mp hk with q | q
    · subst q; exact h1
    · exact h k (mem_norm.mp q)
  exact this
theorem Pi.card {rs : List Rule} {ms fd : List Int} (h : Pi rs ms fd) : (norm fd).length ≤ (univ rs ms).length := nodup_len ((norm_lt fd).imp fun q => by omega) fun k hk => der_mem (h.der k (mem_norm.mp hk))
theorem putStep_ext (fd : List Int) (p : Rule) : ∃ e, putStep fd p = fd ++ e ∧ (e = [] ∨ ∃ k ∈ e, k ∉ fd) := by
  unfold putStep
  split
  · refine ⟨_, rfl, ?_⟩
    cases h : lackL p.2 fd with
    | nil => exact .inl rfl
    | cons k l => exact .inr ⟨k, .head _, (mem_lack.mp (h ▸ List.mem_cons_self)).2⟩
  · exact ⟨[], by simp, .inl rfl⟩
theorem Pi.step {rs : List Rule} {ms fd : List Int} {p : Rule} (h : Pi rs ms fd) (hp : p ∈ rs) (hl : p.2.length ≤ 400) : Pi rs ms (putStep fd p) := by
  unfold putStep
  split
  · rename_i hc
    refine ⟨fun k hk => List.mem_append_left _ (h.base k hk), fun k hk => ?_, ?_⟩
    · rcases List.mem_append.mp hk with q | q
      · exact h.der k q
      · exact .step hp (fun j hj => h.der j (lack_nil.mp hc j hj)) (mem_lack.mp q).1
    · have h1 := h.len
      have h2 : (lackL p.2 fd).length ≤ 400 := Nat.le_trans (List.length_filter_le _ _) hl
      rw [List.length_append]
      cases hc2 : lackL p.2 fd with
      | nil => simp; exact h1
      | cons k l =>
        have h3 := norm_strict (l := fd) (m := fd ++ k :: l) (fun x hx => List.mem_append_left _ hx) (x := k) (by simp) (mem_lack.mp (hc2 ▸ List.mem_cons_self)).2
        rw [hc2] at h2
        omega
  · exact h
theorem putPass_ext : ∀ (rs : List Rule) (fd : List Int), ∃ e, putPass rs fd = fd ++ e ∧ (e = [] ∨ ∃ k ∈ e, k ∉ fd)
  | [], fd => ⟨[], by simp [putPass], .inl rfl⟩
  | p :: rs, fd => by
    obtain ⟨e1, h1, h2⟩ := putStep_ext fd p
    obtain ⟨e2, h3, h4⟩ := putPass_ext rs (putStep fd p)
    refine ⟨e1 ++ e2, ?_, ?_⟩
    · show putPass rs (putStep fd p) = _
      rw [h3, h1, List.append_assoc]
    · rcases h2 with q | ⟨k, hk, hn⟩
      · subst q
        rw [List.append_nil] at h1
        rw [h1] at h4
        exact h4
      · exact .inr ⟨k, List.mem_append_left _ hk, hn⟩
theorem putPass_fix : ∀ {rs : List Rule} {fd : List Int}, (putPass rs fd).length ≤ fd.length → putPass rs fd = fd ∧ ∀ p ∈ rs, lackL p.1 fd = [] → lackL p.2 fd = []
  | [], fd, _ => ⟨rfl, fun _ h => nomatch h⟩
  | p :: rs, fd, h => by
    obtain ⟨e1, h1, _⟩ := putStep_ext fd p
    obtain ⟨e2, h3, _⟩ := putPass_ext rs (putStep fd p)
    have hh : putPass (p :: rs) fd = putPass rs (putStep fd p) := rfl
    rw [hh, h3, h1] at h
    simp only [List.length_append] at h
    have e1n : e1 = [] := List.eq_nil_of_length_eq_zero (by omega)
    subst e1n
    rw [List.append_nil] at h1
    obtain ⟨q1, q2⟩ := putPass_fix (rs := rs) (fd := fd) (by rw [h1] at h3; rw [h3, List.length_append]; simp at h ⊢; omega)
    refine ⟨by rw [hh, h1]; exact q1, fun q hq => ?_⟩
    rcases List.mem_cons.mp hq with d | d
    · subst d
      intro hc
      unfold putStep at h1
      rw [if_pos hc] at h1
      simpa using h1
    · exact q2 q d
theorem Pi.pass {rs : List Rule} {ms : List Int} : ∀ {l : List Rule} {fd : List Int}, Pi rs ms fd → (∀ p ∈ l, p ∈ rs ∧ p.2.length ≤ 400) → Pi rs ms (putPass l fd)
  | [], _, h, _ => h
  | p :: l, fd, h, hl => Pi.pass (l := l) (h.step (hl p (.head _)).1 (hl p (.head _)).2) fun q hq => hl q (.tail _ hq)
theorem put_closed {rs : List Rule} {ms : List Int} (hl : ∀ p ∈ rs, p.2.length ≤ 400) : ∀ {n : Nat} {fd : List Int}, Pi rs ms fd → (univ rs ms).length + 1 ≤ n + (norm fd).length →
    (∀ k ∈ ms, k ∈ put n rs fd) ∧ ∀ p ∈ rs, (∀ j ∈ p.1, j ∈ put n rs fd) → ∀ k ∈ p.2, k ∈ put n rs fd
  | 0, fd, h, hn => by have := h.card; omega
  | n + 1, fd, h, hn => by
    unfold put
    split
    · rename_i hc
      refine put_closed hl (h.pass fun p hp => ⟨hp, hl p hp⟩) ?_
      obtain ⟨e, h1, h2⟩ := putPass_ext rs fd
      rcases h2 with q | ⟨k, hk, hkn⟩
      · subst q; rw [h1] at hc; simp at hc
      · have := norm_strict (l := fd) (m := putPass rs fd) (fun x hx => by rw [h1]; exact List.mem_append_left _ hx) (x := k) (by rw [h1]; exact List.mem_append_right _ hk) hkn
        omega
    · rename_i hc
      obtain ⟨_, h2⟩ := putPass_fix (Nat.not_lt.mp hc)
      exact ⟨h.base, fun p hp hj => lack_nil.mp (h2 p hp (lack_nil.mpr hj))⟩
theorem Pi.start (rs : List Rule) (ms : List Int) : Pi rs ms ms := by
  refine ⟨fun _ h => h, fun _ h => .base h, by omega⟩
def putTo (rs : List Rule) (ms : List Int) : List Int := put ((univ rs ms).length + 1) rs ms

section
variable {c : Cx} {f : Addr}

theorem put_to_ok {fl : Addr} (hf : FnAt c f (st 11)) (hk : FnAt c fl (st 10)) (g1 : c.mg "_law_lacks" = some (.ref fl)) (g2 : c.mg "len" = none) (g3 : c.mg "list" = none) (rs : List Rule) (ms : List Int) (hB : (univ rs ms).length ≤ 400)
    (hL : ∀ p ∈ rs, p.1.length ≤ 400) : Fn c 2 f [RS rs, I ms] (I (putTo rs ms)) := by
  have hms : ms.length ≤ (univ rs ms).length := by unfold univ; simp
  have hrl : ∀ p ∈ rs, p.2.length ≤ 400 := fun p hp => Nat.le_trans (univ_rhs hp) hB
  refine fn_of hf (fun nm qn doc pm an cdv ct vs h => match vs, h with | [a, b], _ => rfl) (fun qn cdv L => ?_)
  refine ex_seq (ex_assign (ev_listOf g3 boot_list (ev_name rfl rfl) (by simp; omega)) ?_)
  refine ex_seq (ex_assign (ev_neg ev_int) ?_)
  refine ex_seq (while_st (σ := List Int × Int) (fun t => [("_law_found", I t.1), ("_law_size", .int t.2), ("_law_rules", RS rs)]) (fun _ => [])
    (fun n t => Pi rs ms t.1 ∧ ((t.2 < t.1.length ∧ ∃ m, putTo rs ms = put m rs t.1 ∧ (univ rs ms).length + 1 ≤ m + (norm t.1).length ∧ m ≤ n) ∨ ((t.1.length : Int) ≤ t.2 ∧ putTo rs ms = t.1)))
    (n := (univ rs ms).length + 1) (t := (ms, -1)) ⟨Pi.start rs ms, .inl ⟨by dsimp only; omega, _, rfl, by omega, Nat.le_refl _⟩⟩ (has_of (hasAll_cons rfl (hasAll_cons rfl (hasAll_cons rfl hasAll_nil)))) rfl ?_)
  rintro n ⟨fd, sz⟩ ⟨hP, hJ⟩
  dsimp only at hP hJ ⊢
  have hlen : fd.length ≤ 200000 := by have h1 := hP.len; have h2 := hP.card; omega
  refine ⟨decide (sz < (fd.length : Int)), tr_cmp (ev_name rfl rfl) (ev_len g2 boot_len (ev_name rfl rfl) (by simp; omega)) (fun X A s v u hA h1 h2 => by have := cmp_lt (c := c) (A := A) h1 h2; simpa using this), fun hb => ?_, fun hb ρ' hρ => ?_⟩
  · have hb' : sz < (fd.length : Int) := by simpa using hb
    obtain ⟨m, hm1, hm2, hm3⟩ : ∃ m, putTo rs ms = put m rs fd ∧ (univ rs ms).length + 1 ≤ m + (norm fd).length ∧ m ≤ n := by
      rcases hJ with ⟨_, h⟩ | ⟨h, _⟩
      · exact h
      · omega
    have hcard := hP.card
    obtain ⟨m, rfl⟩ : ∃ j, m = j + 1 := ⟨m - 1, by omega⟩
    refine ex_seq (ex_assign (ev_len g2 boot_len (ev_name rfl rfl) (by simp; omega)) ?_)
    refine ex_seq (ex_for (ds := rs.map PR) (src_list (ev_name rfl rfl)) ?_)
    refine turns_st (σ := List Int) (fun t => [("_law_found", I t), ("_law_size", .int fd.length), ("_law_rules", RS rs)]) (fun _ => [])
      (fun l t => Pi rs ms t ∧ (∀ p ∈ l, p ∈ rs) ∧ putPass rs fd = putPass l t) ?_ ?_ rs fd _ ⟨hP, fun _ h => h, rfl⟩ (has_of (hasAll_cons rfl (hasAll_cons (by simp) (hasAll_cons rfl hasAll_nil))))
    · rintro p rest t ⟨hPt, hin, he⟩
      have hp := hin p (.head _)
      have hlt : t.length ≤ 200000 := by have h1 := hPt.len; have h2 := hPt.card; omega
      have hpl := hrl p hp
      have hstep : Pi rs ms (putStep t p) := hPt.step hp hpl
      refine ex_seq (ex_if (b := decide (lackL p.1 t = [])) (tr_cmp (ev_call g1 hk (.cons (ev_itemT (ev_name rfl rfl) ev_int (by decide) (by decide) rfl) (.cons (ev_name rfl rfl) .nil rfl) rfl) (lacks_ok hk p.1 t (by have := hL p hp; omega))) (ev_list .nil (by simp)) (fun X A s v u hA h1 h2 => cmp_Eq enc_I (by decide) (a := lackL p.1 t) (b := []) hA h1 h2)) (fun hb => ?_) (fun hb => ?_))
      · have hc : lackL p.1 t = [] := by simpa using hb
        refine ex_seq (ex_assign (d := I (putStep t p)) (by
          have e : I (putStep t p) = .list (t.map D.int ++ (lackL p.2 t).map D.int) := by unfold putStep; rw [if_pos hc]; simp
          rw [e]
          exact ev_catL (ev_name rfl rfl) (ev_call g1 hk (.cons (ev_itemT (ev_name rfl rfl) ev_int (by decide) (by decide) rfl) (.cons (ev_name rfl rfl) .nil rfl) rfl) (lacks_ok hk p.2 t (by omega))) (by
            have : (lackL p.2 t).length ≤ 400 := Nat.le_trans (List.length_filter_le _ _) hpl
            simp only [List.length_map]; omega)) ?_)
        exact ex_nil (ex_nil ⟨putStep t p, ⟨hstep, fun q hq => hin q (.tail _ hq), he⟩, has_of (hasAll_cons rfl (hasAll_cons rfl (hasAll_cons rfl hasAll_nil))), rfl⟩)
      · have hc : ¬ lackL p.1 t = [] := by simpa using hb
        have e : putStep t p = t := by unfold putStep; rw [if_neg hc]
        refine ex_nil (ex_nil ⟨t, ⟨hPt, fun q hq => hin q (.tail _ hq), ?_⟩, has_of (hasAll_cons rfl (hasAll_cons rfl (hasAll_cons rfl hasAll_nil))), rfl⟩)
        rw [he]; show putPass rest (putStep t p) = _; rw [e]
    · rintro t ρ' ⟨hPt, _, he⟩ hρ
      have he' : putPass rs fd = t := he
      subst he'
      have hput : put (m + 1) rs fd = if fd.length < (putPass rs fd).length then put m rs (putPass rs fd) else fd := rfl
      rw [hput] at hm1
      by_cases hc : fd.length < (putPass rs fd).length
      · rw [if_pos hc] at hm1
        refine ex_nil ⟨m, (putPass rs fd, (fd.length : Int)), by omega, ⟨hPt, .inl ⟨by dsimp only; omega, m, hm1, ?_, Nat.le_refl _⟩⟩, hρ, rfl⟩
        obtain ⟨e, h1, h2⟩ := putPass_ext rs fd
        dsimp only
        rcases h2 with q | ⟨k, hk', hkn⟩
        · subst q; rw [h1] at hc; simp at hc
        · have := norm_strict (l := fd) (m := putPass rs fd) (fun x hx => by rw [h1]; exact List.mem_append_left _ hx) (x := k) (by rw [h1]; exact List.mem_append_right _ hk') hkn
          omega
      · rw [if_neg hc] at hm1
        have := (putPass_fix (Nat.not_lt.mp hc)).1
        refine ex_nil ⟨m, (putPass rs fd, (fd.length : Int)), by omega, ⟨hPt, .inr ⟨by dsimp only; omega, by rw [this]; exact hm1⟩⟩, hρ, rfl⟩
  · have hb' : ¬ sz < (fd.length : Int) := by simpa using hb
    refine ex_has ?_ hρ
    have e : putTo rs ms = fd := by
      rcases hJ with ⟨h, _⟩ | ⟨_, h⟩
      · exact absurd h hb'
      · exact h
    rw [e]
    exact ex_seq (ex_return (ev_name rfl rfl) rfl)
end
end Mine
end

/-! # L4d -/
section
open PySem PySem.Calls PyProof.Rows
set_option autoImplicit false
set_option linter.unusedVariables false
namespace Mine

def tbl : List Int := [1, 2, 3, 5, 7, 11, 13, 17]
def someV (cell many k : Int) : Int := (((cell * 48271).fmod 1000003).fdiv (tbl.getD k.toNat 1) + k * cell).fmod many
def someL (cell most many : Int) : List Int := (upto (cell.fmod (most + 1))).map (someV cell many)
theorem fmod_lt {a b : Int} (h : 0 < b) : a.fmod b < b := Int.fmod_lt_of_pos a h
theorem fmod_nn {a b : Int} (h : 0 < b) : 0 ≤ a.fmod b := Int.fmod_nonneg_of_pos a h
theorem some_len {cell most many : Int} (h0 : 0 ≤ most) : ((someL cell most many).length : Int) ≤ most := by
  unfold someL upto
  have h1 := fmod_lt (a := cell) (b := most + 1) (by omega)
  have h2 := fmod_nn (a := cell) (b := most + 1) (by omega)
  simp; omega
theorem mul_left {a b : Int} (h : a.natAbs < 2 ^ 32) : IntMulOk a b := IntMulOk.of_left (by
  unfold Builtin.Int.intBits
  split
  · omega
  · rename_i hz
    have h0 : a.natAbs ≠ 0 := by simp at hz; omega
    have := (Nat.log2_lt h0).mpr h
    omega)

section
variable {c : Cx} {f : Addr}
theorem some_ok (hf : FnAt c f (st 8)) (g1 : c.mg "range" = none) (cell most many : Int) (h0 : 0 ≤ most) (h1 : most ≤ 8) (h2 : 0 < many) : Fn c 1 f [.int cell, .int most, .int many] (I (someL cell most many)) := by
  refine fn_of hf (fun nm qn doc pm an cdv ct vs h => match vs, h with | [a, b, d], _ => rfl) (fun qn cdv L => ?_)
  refine ex_seq (ex_assign (ev_mod (ev_mul (ev_name rfl rfl) ev_int (by mul_fits)) ev_int (by decide)) ?_)
  have hm1 := fmod_lt (a := cell) (b := most + 1) (by omega)
  have hm2 := fmod_nn (a := cell) (b := most + 1) (by omega)
  refine ex_seq (ex_return (d := I (someL cell most many)) ?_ rfl)
  have e : I (someL cell most many) = .list ((((upto (cell.fmod (most + 1))).filter fun _ => true).map (someV cell many)).map .int) := by rw [List.filter_eq_self.mpr (fun _ _ => rfl)]; rfl
  rw [e]
  refine ev_compM (g := D.int) (h := D.int) inj_int (src_range g1 boot_range (ev_mod (ev_name rfl rfl) (ev_add (ev_name rfl rfl) ev_int) (by omega)) (by omega) (by omega)) (fun C cl a ha => tests_nil) (fun C cl a ha hp => ?_) (by unfold upto; simp; omega)
  obtain ⟨ha1, ha2⟩ := mem_upto.mp ha
  have hk : a.toNat < 8 := by omega
  have ht : (tbl.map D.int)[a.toNat]? = some (.int (tbl.getD a.toNat 1)) := by
    have hk' : a.toNat < tbl.length := hk
    simp [hk']
  have hpos : 0 < tbl.getD a.toNat 1 ∧ tbl.getD a.toNat 1 ≤ 17 := by
    have : ∀ i : Fin 8, 0 < tbl.getD i.1 1 ∧ tbl.getD i.1 1 ≤ 17 := by decide
    exact this ⟨a.toNat, hk⟩
  refine ev_mod (ev_add (ev_fdiv (ev_name rfl rfl) (ev_item (ds := tbl.map D.int) (ev_list (.cons ev_int (.cons ev_int (.cons ev_int (.cons ev_int (.cons ev_int (.cons ev_int (.cons ev_int (.cons ev_int .nil rfl) rfl) rfl) rfl) rfl) rfl) rfl) rfl) (by decide)) (ev_name rfl rfl) ha1 ht (by decide)) (by omega) (by omega)) (ev_mul (ev_name rfl rfl) (ev_name rfl rfl) (mul_left (by omega)))) (ev_name rfl rfl) (by omega)
end
end Mine
end

/-! # L4e -/
section
open PySem PySem.Calls PyProof.Rows
set_option autoImplicit false
set_option linter.unusedVariables false
namespace Mine

theorem Fn.up {c : Cx} {j k : Nat} {f : Addr} {ds : List D} {r : D} (h : Fn c j f ds r) (hjk : j ≤ k) : Fn c k f ds r := fun X A s vs hA => h X A s vs (hA.le hjk)
theorem FnF.up {c : Cx} {j k : Nat} {f : Addr} {ds rs : List D} (h : FnF c j f ds rs) (hjk : j ≤ k) : FnF c k f ds rs := fun X A s vs E hA => h X A s vs E (hA.le hjk)

theorem upto_len (n : Int) : (upto n).length = n.toNat := by simp [upto]
/-- an if whose ways meet -/
theorem ex_if_join {c : Cx} {k : Nat} {env : Env} {ρ : Vars} {μ : Mem} {Q : Out → Vars → Mem → Prop} {test : Expr} {body orelse : List Stmt} {pos : Pos} {b : Bool} (ρJ : Vars) (μJ : Mem) (ht : Tr c k env ρ μ test b)
    (h1 : b = true → Ex c k env ρ μ body (fun o ρ' μ' => match o with | .next => Has ρJ ρ' ∧ μ' = μJ | o => Q o ρ' μ')) (h2 : b = false → Ex c k env ρ μ orelse (fun o ρ' μ' => match o with | .next => Has ρJ ρ' ∧ μ' = μJ | o => Q o ρ' μ'))
    (hj : ∀ ρ', Has ρJ ρ' → Q .next ρ' μJ) : Ex1 c k env ρ μ (.If test body orelse pos) Q := by
  have conv : ∀ o ρ' μ', (match o with | Out.next => Has ρJ ρ' ∧ μ' = μJ | o => Q o ρ' μ') → Q o ρ' μ' := fun o ρ' μ' q => by
    cases o with
    | next => obtain ⟨q1, rfl⟩ := q; exact hj ρ' q1
    | brk => exact q
    | cont => exact q
    | ret d => exact q
  exact ex_if ht (fun hb => ex_mono (h1 hb) conv) (fun hb => ex_mono (h2 hb) conv)

def ruleK (ns : List Int) (many k : Int) (acc : List Rule) : Rule :=
  if (ns.getD 1 0).fmod 3 = 1 ∧ acc ≠ [] then (someL (ns.getD (6 + 2 * k).toNat 0) 4 many, (acc.getLastD ([], [])).1)
  else (someL (ns.getD (6 + 2 * k).toNat 0) 4 many, someL (ns.getD (7 + 2 * k).toNat 0) 4 many)
def stepR (ns : List Int) (many : Int) (acc : List Rule) (k : Int) : List Rule := acc ++ [ruleK ns many k acc]
def rulesB (ns : List Int) (many : Int) : List Rule := (upto ((ns.getD 0 0).fmod 13)).foldl (stepR ns many) []
def chainL : List Rule := (upto 15).map fun k => ([14 - k], [15 - k])
def rulesL (ns : List Int) (many : Int) : List Rule := if ((ns.getD 1 0).fdiv 12).fmod 8 = 1 then rulesB ns many ++ chainL else rulesB ns many

def Short (p : Rule) : Prop := p.1.length ≤ 4 ∧ p.2.length ≤ 4
theorem ruleK_short {ns : List Int} {many k : Int} {acc : List Rule} (h : ∀ p ∈ acc, Short p) : Short (ruleK ns many k acc) := by
  have hs : ∀ x, (someL x 4 many).length ≤ 4 := fun x => by have := some_len (cell := x) (most := 4) (many := many) (by decide); omega
  unfold ruleK
  split
  · rename_i hc
    refine ⟨hs _, ?_⟩
    have : acc.getLastD ([], []) ∈ acc := by
      obtain ⟨_, hne⟩ := hc
      cases acc with
      | nil => exact absurd rfl hne
      | cons a l => rw [List.getLastD_cons]; exact List.getLastD_mem_cons
    exact (h _ this).1
  · exact ⟨hs _, hs _⟩
theorem fold_short {ns : List Int} {many : Int} : ∀ (l : List Int) (acc : List Rule), (∀ p ∈ acc, Short p) → (∀ p ∈ l.foldl (stepR ns many) acc, Short p) ∧ (l.foldl (stepR ns many) acc).length = acc.length + l.length
  | [], acc, h => ⟨h, rfl⟩
  | k :: l, acc, h => by
    obtain ⟨h1, h2⟩ := fold_short l (stepR ns many acc k) (fun p hp => by
      rcases List.mem_append.mp hp with q | q
      · exact h p q
      · rw [List.mem_singleton] at q; subst q; exact ruleK_short h)
    refine ⟨h1, ?_⟩
    show (l.foldl (stepR ns many) (stepR ns many acc k)).length = _
    rw [h2]; unfold stepR; simp; omega
theorem rules_short (ns : List Int) (many : Int) : (∀ p ∈ rulesL ns many, Short p) ∧ (rulesL ns many).length ≤ 27 := by
  obtain ⟨h1, h2⟩ := fold_short (ns := ns) (many := many) (upto ((ns.getD 0 0).fmod 13)) [] (fun _ h => nomatch h)
  have h3 : (rulesB ns many).length ≤ 12 := by
    unfold rulesB
    rw [h2]
    have := fmod_lt (a := ns.getD 0 0) (b := 13) (by decide)
    rw [upto_len]; show 0 + _ ≤ 12; omega
  unfold rulesL
  split
  · refine ⟨fun p hp => ?_, ?_⟩
    · rcases List.mem_append.mp hp with q | q
      · exact h1 p q
      · obtain ⟨k, _, rfl⟩ := List.mem_map.mp q; exact ⟨by simp, by simp⟩
    · rw [List.length_append]
      have : chainL.length = 15 := by decide
      omega
  · exact ⟨h1, by omega⟩
theorem univ_short {rs : List Rule} {ms : List Int} (h : ∀ p ∈ rs, Short p) : (univ rs ms).length ≤ ms.length + 4 * rs.length := by
  unfold univ
  rw [List.length_append, List.length_flatMap]
  have : (rs.map fun q => q.2.length).sum ≤ 4 * rs.length := by
    induction rs with
    | nil => simp
    | cons p rs ih =>
      rw [List.map_cons, List.sum_cons, List.length_cons]
      have h1 := (h p (.head _)).2
      have h2 := ih fun q hq => h q (.tail _ hq)
      omega
  omega

section
variable {c : Cx} {f : Addr}
theorem rules_by_ok {fc fs : Addr} (hf : FnAt c f (st 9)) (hc : FnAt c fc (st 7)) (hs : FnAt c fs (st 8)) (g1 : c.mg "_law_cell_at" = some (.ref fc)) (g2 : c.mg "_law_some" = some (.ref fs)) (g3 : c.mg "range" = none) (g4 : c.mg "list" = none) (g5 : c.mg "len" = none)
    {ns : List Int} (hl : ns.length ≤ 63) (many : Int) (hm : 0 < many) : Fn c 2 f [I ns, .int many] (RS (rulesL ns many)) := by
  have b13 := fmod_lt (a := ns.getD 0 0) (b := 13) (by decide)
  have b13' := fmod_nn (a := ns.getD 0 0) (b := 13) (by decide)
  refine fn_of hf (fun nm qn doc pm an cdv ct vs h => match vs, h with | [a, b], _ => rfl) (fun qn cdv L => ?_)
  refine ex_seq (ex_assignF evF_nil fun a _ => ?_)
  refine ex_seq (ex_for (src_range (n := (ns.getD 0 0).fmod 13) g3 boot_range (ev_mod (ev_call g1 hc (.cons (ev_name rfl rfl) (.cons ev_int .nil rfl) rfl) (cell_at_ok hc g5 (by decide) hl)) ev_int (by decide)) (by omega) (by omega)) ?_)
  refine turns_st (f := D.int) (σ := List Rule) (fun t => [("_law_rules", .raw (.ref a)), ("_law_script", I ns), ("_law_many", .int many)]) (fun t => [(a, t.map PR)])
    (fun l t => (∀ k ∈ l, 0 ≤ k) ∧ (∀ p ∈ t, Short p) ∧ t.length + l.length ≤ 12 ∧ rulesB ns many = l.foldl (stepR ns many) t) ?_ ?_ (upto ((ns.getD 0 0).fmod 13)) [] _
    ⟨fun k hk => (mem_upto.mp hk).1, fun _ h => (nomatch h), by rw [upto_len]; show 0 + _ ≤ 12; omega, rfl⟩ (has_of (hasAll_cons rfl (hasAll_cons rfl (hasAll_cons rfl hasAll_nil))))
  · rintro k rest t ⟨hk, hsh, hlen, he⟩
    have hk0 := hk k (.head _)
    simp only [List.length_cons] at hlen
    refine ex_seq (ex_assign (ev_call g1 hc (.cons (ev_name rfl rfl) (.cons (ev_add ev_int (ev_mul ev_int (ev_name rfl rfl) (mul_left (by decide)))) .nil rfl) rfl) (cell_at_ok hc g5 (by omega) hl)) ?_)
    refine ex_seq (ex_assign (d := PR (someL (ns.getD (6 + 2 * k).toNat 0) 4 many, someL (ns.getD (7 + 2 * k).toNat 0) 4 many)) (ev_tuple (.cons (ev_call g2 hs (.cons (ev_name rfl rfl) (.cons ev_int (.cons (ev_name rfl rfl) .nil rfl) rfl) rfl) (some_ok hs g3 _ 4 many (by decide) (by decide) hm))
      (.cons (ev_call g2 hs (.cons (ev_call g1 hc (.cons (ev_name rfl rfl) (.cons (ev_add ev_int (ev_mul ev_int (ev_name rfl rfl) (mul_left (by decide)))) .nil rfl) rfl) (cell_at_ok hc g5 (by omega) hl)) (.cons ev_int (.cons (ev_name rfl rfl) .nil rfl) rfl) rfl) (some_ok hs g3 _ 4 many (by decide) (by decide) hm)) .nil rfl) rfl) (by show 2 ≤ 16777216; decide)) ?_)
    refine ex_seq (ex_if_join (b := decide ((ns.getD 1 0).fmod 3 = 1 ∧ t ≠ [])) [("_law_rule", PR (ruleK ns many k t)), ("_law_rules", .raw (.ref a)), ("_law_script", I ns), ("_law_many", .int many)] [(a, t.map PR)]
      (tr_and (a := (ns.getD 1 0).fmod 3 == 1) (tr_cmp (ev_mod (ev_call g1 hc (.cons (ev_name rfl rfl) (.cons ev_int .nil rfl) rfl) (cell_at_ok hc g5 (by decide) hl)) ev_int (by decide)) ev_int fun X A s v u hA h1 h2 => cmp_eq h1 h2)
        (fun ha => tr_and (a := !decide (t = [])) (tr_lend (x := "_law_rules") (a := a) (ds := t.map PR) rfl (.head _) (tr_cmp (ev_name rfl rfl) (ev_list .nil (by simp)) fun X A s v u hA h1 h2 => cmp_Ne enc_RS (by decide) (a := t) (b := []) hA h1 h2)) (fun hb => ?_) (fun hb => ?_)) (fun ha => ?_)) (fun hb => ?_) (fun hb => ?_) fun ρ' hρ => ?_)
    · have e1 : (ns.getD 1 0).fmod 3 = 1 := by simpa using ha
      have e2 : t ≠ [] := by simpa using hb
      rw [decide_eq_true ⟨e1, e2⟩]; exact tr_and0
    · have e2 : t = [] := by simpa using hb
      simp [e2]
    · have e1 : ¬ (ns.getD 1 0).fmod 3 = 1 := by simpa using ha
      exact decide_eq_false fun q => e1 q.1
    · obtain ⟨e1, e2⟩ := of_decide_eq_true hb
      have hpos : 0 < t.length := List.length_pos_iff.mpr e2
      have hlast : (t.map PR)[(-1 + ((t.map PR).length : Int)).toNat]? = some (PR (t.getLastD ([], []))) := by
        rw [List.length_map, show (-1 + (t.length : Int)).toNat = t.length - 1 by omega, List.getElem?_map, ← List.getLast?_eq_getElem?, List.getLast?_eq_some_getLast e2, List.getLastD_eq_getLast?, List.getLast?_eq_some_getLast e2]; rfl
      have hsl := (hsh _ (show t.getLastD ([], []) ∈ t by rw [List.getLastD_eq_getLast?, List.getLast?_eq_some_getLast e2]; exact List.getLast_mem e2)).1
      refine ex_seq (ex_assign (d := PR (ruleK ns many k t)) ?_ (ex_nil ⟨has_of (hasAll_cons rfl (hasAll_cons rfl (hasAll_cons rfl (hasAll_cons rfl hasAll_nil)))), rfl⟩))
      have er : ruleK ns many k t = (someL (ns.getD (6 + 2 * k).toNat 0) 4 many, (t.getLastD ([], [])).1) := by unfold ruleK; rw [if_pos ⟨e1, e2⟩]
      rw [er]
      exact ev_tuple (.cons (ev_itemT (ev_name rfl rfl) ev_int (by decide) (by decide) rfl) (.cons (ev_listOf g4 boot_list (ev_itemT (ev_itemMNeg (x := "_law_rules") (a := a) (ds := t.map PR) rfl (.head _) (ev_neg ev_int) (by decide) (by rw [List.length_map]; omega) hlast (by rw [List.length_map]; omega)) ev_int (by decide) (by decide) rfl) (by rw [List.length_map]; dsimp only; omega)) .nil rfl) rfl) (by show 2 ≤ 16777216; decide)
    · have hn := of_decide_eq_false hb
      have er : ruleK ns many k t = (someL (ns.getD (6 + 2 * k).toNat 0) 4 many, someL (ns.getD (7 + 2 * k).toNat 0) 4 many) := by unfold ruleK; rw [if_neg hn]
      refine ex_nil ⟨?_, rfl⟩
      rw [er]
      exact has_of (hasAll_cons rfl (hasAll_cons rfl (hasAll_cons rfl (hasAll_cons rfl hasAll_nil))))
    · refine ex_has ?_ hρ
      refine ex_seq (ex_append (x := "_law_rules") (a := a) (ds := t.map PR) rfl (.head _) (ev_name rfl rfl) (by rw [List.length_map]; omega) ?_)
      refine ex_nil ⟨stepR ns many t k, ⟨fun j hj => hk j (.tail _ hj), fun p hp => ?_, by unfold stepR; simp; omega, he⟩, has_of (hasAll_cons rfl (hasAll_cons rfl (hasAll_cons rfl hasAll_nil))), by simp [setM, stepR]⟩
      rcases List.mem_append.mp hp with q | q
      · exact hsh p q
      · rw [List.mem_singleton] at q; subst q; exact ruleK_short hsh
  · rintro t ρ' ⟨_, hsh, hlen, he⟩ hρ
    have he' : rulesB ns many = t := he
    refine ex_has ?_ hρ
    refine ex_freeze (x := "_law_rules") (a := a) (ds := t.map PR) rfl (.head _) ?_
    refine ex_seq (ex_if_join (b := (((ns.getD 1 0).fdiv 12).fmod 8 == 1)) [("_law_rules", RS (rulesL ns many))] (dropM [(a, t.map PR)] a)
      (tr_cmp (ev_mod (ev_fdiv (ev_call g1 hc (.cons (ev_name rfl rfl) (.cons ev_int .nil rfl) rfl) (cell_at_ok hc g5 (by decide) hl)) ev_int (by decide) (by decide)) ev_int (by decide)) ev_int fun X A s v u hA h1 h2 => cmp_eq h1 h2) (fun hb => ?_) (fun hb => ?_) fun ρ' hρ => ?_)
    · have e1 : ((ns.getD 1 0).fdiv 12).fmod 8 = 1 := by simpa using hb
      refine ex_seq (ex_assign (d := RS (rulesL ns many)) ?_ (ex_nil ⟨has_of (hasAll_cons rfl hasAll_nil), rfl⟩))
      have er : RS (rulesL ns many) = .list (t.map PR ++ (((upto 15).filter fun _ => true).map fun k => (([14 - k], [15 - k]) : Rule)).map PR) := by
        unfold rulesL; rw [if_pos e1, he', List.filter_eq_self.mpr (fun _ _ => rfl)]; show D.list ((t ++ chainL).map PR) = _; rw [List.map_append]; rfl
      rw [er]
      refine ev_catL (ev_name rfl rfl) (ev_compM (g := D.int) (h := PR) inj_int (src_range g3 boot_range ev_int (by decide) (by decide)) (fun C cl k hk => tests_nil) (fun C cl k hk hp => ?_) (by rw [upto_len]; decide)) (by rw [List.filter_eq_self.mpr (fun _ _ => rfl)]; simp [upto_len]; omega)
      exact ev_tuple (.cons (ev_list (.cons (ev_sub ev_int (ev_name rfl rfl)) .nil rfl) (by show 1 ≤ 16777216; decide)) (.cons (ev_list (.cons (ev_sub ev_int (ev_name rfl rfl)) .nil rfl) (by show 1 ≤ 16777216; decide)) .nil rfl) rfl) (by show 2 ≤ 16777216; decide)
    · have e1 : ¬ ((ns.getD 1 0).fdiv 12).fmod 8 = 1 := by simpa using hb
      refine ex_nil ⟨?_, rfl⟩
      have er : rulesL ns many = t := by unfold rulesL; rw [if_neg e1, he']
      rw [er]
      exact has_of (hasAll_cons rfl hasAll_nil)
    · refine ex_has ?_ hρ
      exact ex_seq (ex_return (ev_name rfl rfl) rfl)
end
end Mine
end

/-! # L4f -/
section
open PySem PySem.Calls PyProof.Rows
set_option autoImplicit false
set_option linter.unusedVariables false
namespace Mine

theorem clo_len {rs : List Rule} {ms : List Int} : (clo rs ms).length ≤ (univ rs ms).length :=
  nodup_len ((clo_lt rs ms).imp fun q => by omega) fun k hk => der_mem (mem_clo.mp hk)
theorem clo_idem (rs : List Rule) (ms : List Int) : clo rs (clo rs ms) = clo rs ms := by
  refine lt_ext (clo_lt _ _) (clo_lt _ _) fun k => ⟨fun h => ?_, fun h => mem_clo.mpr (.base h)⟩
  refine der_in (fun _ q => q) (fun p hp hj k hk => mem_clo.mpr (.step hp (fun j q => mem_clo.mp (hj j q)) hk)) (mem_clo.mp h)
theorem clo_base {rs : List Rule} {ms : List Int} : lackL ms (clo rs ms) = [] := lack_nil.mpr fun k hk => mem_clo.mpr (.base hk)
theorem clo_met {rs : List Rule} {ms : List Int} {p : Rule} (hp : p ∈ rs) (h : lackL p.1 (clo rs ms) = []) : lackL p.2 (clo rs ms) = [] :=
  lack_nil.mpr fun k hk => mem_clo.mpr (.step hp (fun j hj => mem_clo.mp (lack_nil.mp h j hj)) hk)
theorem clo_put {rs : List Rule} {ms more : List Int} (hl : ∀ p ∈ rs, p.2.length ≤ 400) : lackL (clo rs ms) (putTo rs (ms ++ more)) = [] := by
  obtain ⟨h1, h2⟩ := put_closed hl (Pi.start rs (ms ++ more)) (n := (univ rs (ms ++ more)).length + 1) (by omega)
  exact lack_nil.mpr fun k hk => der_in (fun j hj => h1 j (List.mem_append_left _ hj)) h2 (mem_clo.mp hk)

structure Lib (c : Cx) : Prop where
  has_all : ∃ f, c.mg "has_all" = some (.ref f) ∧ FnAt c f (st 1)
  met : ∃ f, c.mg "met" = some (.ref f) ∧ FnAt c f (st 3)
  grown : ∃ f, c.mg "grown" = some (.ref f) ∧ FnAt c f (st 4)
  whole : ∃ f, c.mg "_law_whole" = some (.ref f) ∧ FnAt c f (st 6)
  cell : ∃ f, c.mg "_law_cell_at" = some (.ref f) ∧ FnAt c f (st 7)
  draw : ∃ f, c.mg "_law_some" = some (.ref f) ∧ FnAt c f (st 8)
  rules : ∃ f, c.mg "_law_rules_by" = some (.ref f) ∧ FnAt c f (st 9)
  lacks : ∃ f, c.mg "_law_lacks" = some (.ref f) ∧ FnAt c f (st 10)
  put : ∃ f, c.mg "_law_put_to" = some (.ref f) ∧ FnAt c f (st 11)
  len : c.mg "len" = none
  list : c.mg "list" = none
  range : c.mg "range" = none
  set : c.mg "set" = none
  sorted : c.mg "sorted" = none
  isi : c.mg "isinstance" = none
  int : c.mg "int" = none
  bool : c.mg "bool" = none

theorem law_ok {c : Cx} {f : Addr} (hf : FnAt c f (st 12)) (B : Lib c) {ns : List Int} (hl : ns.length ≤ 63) : Fn c 4 f [I ns] (.bool true) := by
  obtain ⟨⟨fha, gha, hha⟩, ⟨fme, gme, hme⟩, ⟨fgr, ggr, hgr⟩, ⟨fwh, gwh, hwh⟩, ⟨fce, gce, hce⟩, ⟨fso, gso, hso⟩, ⟨fru, gru, hru⟩, ⟨fla, gla, hla⟩, ⟨fpu, gpu, hpu⟩, glen, glist, grange, gset, gsorted, gisi, gint, gbool⟩ := B
  refine fn_of hf (fun nm qn doc pm an cdv ct vs h => match vs, h with | [a], _ => rfl) (fun qn cdv L => ?_)
  have CELL : ∀ i : Int, 0 ≤ i → Fn c 3 fce [I ns, .int i] (.int (ns.getD i.toNat 0)) := fun i h0 => (cell_at_ok hce glen h0 hl).up (by decide)
  have SOME : ∀ cell most many : Int, 0 ≤ most → most ≤ 8 → 0 < many → Fn c 3 fso [.int cell, .int most, .int many] (I (someL cell most many)) := fun cell most many h0 h1 h2 => (some_ok hso grange cell most many h0 h1 h2).up (by decide)
  have LACK : ∀ one other : List Int, one.length ≤ 400 → Fn c 3 fla [I one, I other] (I (lackL one other)) := fun one other h => (lacks_ok hla one other (by omega)).up (by decide)
  have GROWN : ∀ rs ms, (univ rs ms).length ≤ 400 → FnF c 3 fgr [RS rs, I ms] ((clo rs ms).map .int) := fun rs ms h => grown_ok hgr hme hha gha gme gsorted gset glist rs ms h
  have PUT : ∀ rs ms, (univ rs ms).length ≤ 400 → (∀ p ∈ rs, p.1.length ≤ 400) → Fn c 3 fpu [RS rs, I ms] (I (putTo rs ms)) := fun rs ms h1 h2 => (put_to_ok hpu hla gla glen glist rs ms h1 h2).up (by decide)
  refine ex_seq (ex_assign ev_int ?_)
  -- 100 or 8
  obtain ⟨many, hmany, hmv⟩ : ∃ many : Int, (many = if ((ns.getD 1 0).fdiv 3).fmod 4 = 1 then 100 else 8) ∧ 0 < many := ⟨_, rfl, by split <;> decide⟩
  refine ex_seq (ex_if_join (b := (((ns.getD 1 0).fdiv 3).fmod 4 == 1)) [("_law_many", .int many), ("_law_script", I ns)] []
    (tr_cmp (ev_mod (ev_fdiv (ev_call gce hce (.cons (ev_name rfl rfl) (.cons ev_int .nil rfl) rfl) (CELL 1 (by decide))) ev_int (by decide) (by decide)) ev_int (by decide)) ev_int fun X A s v u hA h1 h2 => cmp_eq h1 h2) (fun hb => ?_) (fun hb => ?_) fun ρ₁ hρ₁ => ?_)
  · have e : ((ns.getD 1 0).fdiv 3).fmod 4 = 1 := by simpa using hb
    rw [if_pos e] at hmany; subst hmany
    exact ex_seq (ex_assign ev_int (ex_nil ⟨has_of (hasAll_cons rfl (hasAll_cons rfl hasAll_nil)), rfl⟩))
  · have e : ¬ ((ns.getD 1 0).fdiv 3).fmod 4 = 1 := by simpa using hb
    rw [if_neg e] at hmany; subst hmany
    exact ex_nil ⟨has_of (hasAll_cons rfl (hasAll_cons rfl hasAll_nil)), rfl⟩
  refine ex_has ?_ hρ₁
  obtain ⟨hsh, hrl⟩ := rules_short ns many
  refine ex_seq (ex_assign (ev_call gru hru (.cons (ev_name rfl rfl) (.cons (ev_name rfl rfl) .nil rfl) rfl) ((rules_by_ok hru hce hso gce gso grange glist glen hl many hmv).up (by decide))) ?_)
  generalize rulesL ns many = rs at hsh hrl ⊢
  refine ex_seq (ex_assign (ev_call gso hso (.cons (ev_call gce hce (.cons (ev_name rfl rfl) (.cons ev_int .nil rfl) rfl) (CELL 2 (by decide))) (.cons ev_int (.cons (ev_name rfl rfl) .nil rfl) rfl) rfl) (SOME _ 8 many (by decide) (by decide) hmv)) ?_)
  have hs8 : ∀ x, (someL x 8 many).length ≤ 8 := fun x => by have := some_len (cell := x) (most := 8) (many := many) (by decide); omega
  obtain ⟨ms, hms, hml⟩ : ∃ ms : List Int, (ms = if ((ns.getD 1 0).fdiv 96).fmod 4 = 1 then someL (ns.getD 2 0) 8 many ++ [10 ^ 20 + (ns.getD 2 0).fmod 7] else someL (ns.getD 2 0) 8 many) ∧ ms.length ≤ 9 := by
    refine ⟨_, rfl, ?_⟩
    have := hs8 (ns.getD 2 0)
    split
    · rw [List.length_append]; show _ + 1 ≤ 9; omega
    · omega
  refine ex_seq (ex_if_join (b := (((ns.getD 1 0).fdiv 96).fmod 4 == 1)) [("_law_marks", I ms), ("_law_rules", RS rs), ("_law_many", .int many), ("_law_script", I ns)] []
    (tr_cmp (ev_mod (ev_fdiv (ev_call gce hce (.cons (ev_name rfl rfl) (.cons ev_int .nil rfl) rfl) (CELL 1 (by decide))) ev_int (by decide) (by decide)) ev_int (by decide)) ev_int fun X A s v u hA h1 h2 => cmp_eq h1 h2) (fun hb => ?_) (fun hb => ?_) fun ρ₂ hρ₂ => ?_)
  · have e : ((ns.getD 1 0).fdiv 96).fmod 4 = 1 := by simpa using hb
    rw [if_pos e] at hms; subst hms
    refine ex_seq (ex_assign (d := I (someL (ns.getD 2 0) 8 many ++ [10 ^ 20 + (ns.getD 2 0).fmod 7])) ?_ (ex_nil ⟨has_of (hasAll_cons rfl (hasAll_cons rfl (hasAll_cons rfl (hasAll_cons rfl hasAll_nil)))), rfl⟩))
    rw [show I (someL (ns.getD 2 0) 8 many ++ [10 ^ 20 + (ns.getD 2 0).fmod 7]) = .list ((someL (ns.getD 2 0) 8 many).map .int ++ [.int (10 ^ 20 + (ns.getD 2 0).fmod 7)]) by simp]
    refine ev_catL (ev_name rfl rfl) (ev_list (.cons (ev_add (ev_pow ev_int ev_int (by decide) (by decide) (by decide)) (ev_mod (ev_call gce hce (.cons (ev_name rfl rfl) (.cons ev_int .nil rfl) rfl) (CELL 2 (by decide))) ev_int (by decide))) .nil rfl) (by show 1 ≤ 16777216; decide)) ?_
    have := hs8 (ns.getD 2 0)
    rw [List.length_map]; show _ + 1 ≤ _; omega
  · have e : ¬ ((ns.getD 1 0).fdiv 96).fmod 4 = 1 := by simpa using hb
    rw [if_neg e] at hms; subst hms
    exact ex_nil ⟨has_of (hasAll_cons rfl (hasAll_cons rfl (hasAll_cons rfl (hasAll_cons rfl hasAll_nil)))), rfl⟩
  refine ex_has ?_ hρ₂
  clear hms hmany
  have hU : (univ rs ms).length ≤ 117 := by have := univ_short (ms := ms) hsh; omega
  have hcl : (clo rs ms).length ≤ 117 := Nat.le_trans clo_len hU
  have hU2 : (univ rs (clo rs ms)).length ≤ 400 := by have := univ_short (ms := clo rs ms) hsh; omega
  have hp1 : ∀ p ∈ rs, p.1.length ≤ 400 := fun p hp => by have := (hsh p hp).1; omega
  have hp2 : ∀ p ∈ rs, p.2.length ≤ 400 := fun p hp => by have := (hsh p hp).2; omega
  refine ex_seq (ex_assign_compM (Q := _) (g := PR) (h := PR) (l := rs) (p := fun _ => true) (f := id) inj_PR (src_list (ev_name rfl rfl)) (fun C cl p hp => tests_nil) (fun C cl p hp _ => ?_) (by omega) ?_)
  · exact ev_tuple (.cons (ev_listOf glist boot_list (ev_itemT (ev_name rfl rfl) ev_int (by decide) (by decide) rfl) (by rw [List.length_map]; show p.1.length ≤ 16777216; have := hp1 p hp; omega)) (.cons (ev_listOf glist boot_list (ev_itemT (ev_name rfl rfl) ev_int (by decide) (by decide) rfl) (by rw [List.length_map]; show p.2.length ≤ 16777216; have := hp2 p hp; omega)) .nil rfl) rfl) (by show 2 ≤ 16777216; decide)
  rw [show D.list ((((rs.filter fun _ => true).map id).map PR)) = RS rs by rw [List.filter_eq_self.mpr (fun _ _ => rfl), List.map_id]]
  refine ex_seq (ex_assign (ev_listOf glist boot_list (ev_name rfl rfl) (by rw [List.length_map]; omega)) ?_)
  refine ex_seq (ex_assignF (evF_call ggr hgr (.cons (ev_name rfl rfl) (.cons (ev_name rfl rfl) .nil rfl) rfl) (GROWN rs ms (by omega))) fun a _ => ?_)
  refine ex_seq (ex_if (b := false) (tr_lend (x := "_law_found") (a := a) (ds := (clo rs ms).map .int) rfl (.head _) (tr_or (a := false) (tr_not (b := true) (tr_plain (ev_isList gisi boot_isi glist boot_list (ev_name rfl rfl))))
    (fun _ => tr_or (a := !decide (rs = rs)) (tr_cmp (ev_name rfl rfl) (ev_name rfl rfl) fun X A s v u hA h1 h2 => cmp_Ne enc_RS (by decide) (a := rs) (b := rs) hA h1 h2) (fun _ => tr_or (a := !decide (ms = ms)) (tr_cmp (ev_name rfl rfl) (ev_name rfl rfl) fun X A s v u hA h1 h2 => cmp_Ne enc_I (by decide) (a := ms) (b := ms) hA h1 h2) (fun _ => tr_or0) (by simp)) (by simp)) (by simp))) (fun hb => nomatch hb) (fun _ => ex_nil ?_))
  -- its items
  refine ex_seq (ex_for (src_range (n := (((clo rs ms).map D.int).length : Int)) grange boot_range (ev_lend (x := "_law_found") (a := a) (ds := (clo rs ms).map .int) rfl (.head _) (ev_len glen boot_len (ev_name rfl rfl) (by rw [List.length_map]; omega))) (by rw [List.length_map]; omega) (by rw [List.length_map]; omega)) ?_)
  rw [List.length_map]
  refine turns_st (f := D.int) (σ := Unit) (fun _ => [("_law_found", .raw (.ref a)), ("_law_kept", I ms), ("_law_handed", RS rs), ("_law_marks", I ms), ("_law_rules", RS rs), ("_law_many", .int many), ("_law_script", I ns)]) (fun _ => [(a, (clo rs ms).map .int)])
    (fun l _ => ∀ k ∈ l, 0 ≤ k ∧ k < ((clo rs ms).length : Int)) ?_ ?_ (upto ((clo rs ms).length : Int)) () _ (fun k hk => mem_upto.mp hk) (has_of (hasAll_cons rfl (hasAll_cons rfl (hasAll_cons rfl (hasAll_cons rfl (hasAll_cons rfl (hasAll_cons rfl (hasAll_cons rfl hasAll_nil))))))))
  · rintro k rest _ hk
    obtain ⟨hk0, hk1⟩ := hk k (.head _)
    have hki : k.toNat < (clo rs ms).length := by omega
    have it : ∀ i : Int, 0 ≤ i → i < ((clo rs ms).length : Int) → ((clo rs ms).map D.int)[i.toNat]? = some (.int ((clo rs ms).getD i.toNat 0)) := fun i h0 h1 => by
      have : i.toNat < (clo rs ms).length := by omega
      simp [this]
    refine ex_seq (ex_if (b := false) (tr_lend (x := "_law_found") (a := a) (ds := (clo rs ms).map .int) rfl (.head _) (tr_or (a := false) (tr_not (b := true) (tr_plain (ev_call gwh hwh (.cons (ev_item (ev_name rfl rfl) (ev_name rfl rfl) hk0 (it k hk0 hk1) (by rw [List.length_map]; omega)) .nil rfl) ((whole_ok hwh gisi gint gbool _).up (by decide)))))
      (fun _ => tr_or (a := false) (tr_and (a := decide (0 < k)) (tr_cmp (ev_name rfl rfl) ev_int fun X A s v u hA h1 h2 => cmp_gt h1 h2) (fun hpos => tr_and (a := false) ?_ (fun h => nomatch h) (fun _ => rfl)) (fun _ => rfl)) (fun _ => tr_or0) (fun h => nomatch h)) (fun h => nomatch h))) (fun hb => nomatch hb) (fun _ => ex_nil (ex_nil ⟨(), fun j hj => hk j (.tail _ hj), has_of (hasAll_cons rfl (hasAll_cons rfl (hasAll_cons rfl (hasAll_cons rfl (hasAll_cons rfl (hasAll_cons rfl (hasAll_cons rfl hasAll_nil))))))), rfl⟩)))
    have hpos' : 0 < k := by simpa using hpos
    have hlt : ¬ (clo rs ms).getD k.toNat 0 ≤ (clo rs ms).getD (k - 1).toNat 0 := by
      have h1 := List.pairwise_iff_getElem.mp (clo_lt rs ms) (k - 1).toNat k.toNat (by omega) hki (by omega)
      have h2 : (k - 1).toNat < (clo rs ms).length := by omega
      simp only [List.getD_eq_getElem?_getD, List.getElem?_eq_getElem hki, List.getElem?_eq_getElem h2, Option.getD_some]
      omega
    rw [← decide_eq_false hlt]
    exact tr_cmp (ev_item (ev_name rfl rfl) (ev_sub (ev_name rfl rfl) ev_int) (by omega) (it (k - 1) (by omega) (by omega)) (by rw [List.length_map]; omega)) (ev_item (ev_name rfl rfl) (ev_name rfl rfl) hk0 (it k hk0 hk1) (by rw [List.length_map]; omega)) fun X A s v u hA h1 h2 => cmp_ge h1 h2
  rintro _ ρ₃ _ hρ₃
  refine ex_has ?_ hρ₃
  refine ex_seq (ex_if (b := false) (tr_lend (x := "_law_found") (a := a) (ds := (clo rs ms).map .int) rfl (.head _) (tr_or (a := !decide (lackL ms (clo rs ms) = [])) (tr_cmp (ev_call gla hla (.cons (ev_name rfl rfl) (.cons (ev_name rfl rfl) .nil rfl) rfl) (LACK ms (clo rs ms) (by omega))) (ev_list .nil (by simp)) fun X A s v u hA h1 h2 => cmp_Ne enc_I (by decide) (a := lackL ms (clo rs ms)) (b := []) hA h1 h2)
    (fun _ => tr_or (a := !decide (clo rs (clo rs ms) = clo rs ms)) (tr_cmp (ev_call ggr hgr (.cons (ev_name rfl rfl) (.cons (ev_listOf glist boot_list (ev_name rfl rfl) (by rw [List.length_map]; omega)) .nil rfl) rfl) (GROWN rs (clo rs ms) hU2).fn) (ev_name rfl rfl) fun X A s v u hA h1 h2 => cmp_Ne enc_I (by decide) (a := clo rs (clo rs ms)) (b := clo rs ms) hA h1 h2) (fun _ => tr_or0) (by simp [clo_idem])) (by simp [clo_base]))) (fun hb => nomatch hb) (fun _ => ex_nil ?_))
  refine ex_seq (ex_for (ds := rs.map PR) (src_list (ev_name rfl rfl)) ?_)
  refine turns_st (f := PR) (σ := Unit) (fun _ => [("_law_found", .raw (.ref a)), ("_law_kept", I ms), ("_law_handed", RS rs), ("_law_marks", I ms), ("_law_rules", RS rs), ("_law_many", .int many), ("_law_script", I ns)]) (fun _ => [(a, (clo rs ms).map .int)])
    (fun l _ => ∀ p ∈ l, p ∈ rs) ?_ ?_ rs () _ (fun p hp => hp) (has_of (hasAll_cons rfl (hasAll_cons rfl (hasAll_cons rfl (hasAll_cons rfl (hasAll_cons rfl (hasAll_cons rfl (hasAll_cons rfl hasAll_nil))))))))
  · rintro p rest _ hin
    have hp := hin p (.head _)
    have := hp1 p hp
    have := hp2 p hp
    refine ex_seq (ex_if (b := false) (tr_lend (x := "_law_found") (a := a) (ds := (clo rs ms).map .int) rfl (.head _) (tr_and (a := decide (lackL p.1 (clo rs ms) = [])) (tr_cmp (ev_call gla hla (.cons (ev_itemT (ev_name rfl rfl) ev_int (by decide) (by decide) rfl) (.cons (ev_name rfl rfl) .nil rfl) rfl) (LACK p.1 (clo rs ms) (by omega))) (ev_list .nil (by simp)) fun X A s v u hA h1 h2 => cmp_Eq enc_I (by decide) (a := lackL p.1 (clo rs ms)) (b := []) hA h1 h2)
      (fun h => tr_and (a := !decide (lackL p.2 (clo rs ms) = [])) (tr_cmp (ev_call gla hla (.cons (ev_itemT (ev_name rfl rfl) ev_int (by decide) (by decide) rfl) (.cons (ev_name rfl rfl) .nil rfl) rfl) (LACK p.2 (clo rs ms) (by omega))) (ev_list .nil (by simp)) fun X A s v u hA h1 h2 => cmp_Ne enc_I (by decide) (a := lackL p.2 (clo rs ms)) (b := []) hA h1 h2) (fun h' => absurd h' (by simp [clo_met hp (of_decide_eq_true h)])) (fun _ => rfl)) (fun _ => rfl))) (fun hb => nomatch hb)
      (fun _ => ex_nil (ex_nil ⟨(), fun j hj => hin j (.tail _ hj), has_of (hasAll_cons rfl (hasAll_cons rfl (hasAll_cons rfl (hasAll_cons rfl (hasAll_cons rfl (hasAll_cons rfl (hasAll_cons rfl hasAll_nil))))))), rfl⟩)))
  rintro _ ρ₄ _ hρ₄
  refine ex_has ?_ hρ₄
  have hs8' := hs8 (ns.getD 3 0)
  have hU3 : (univ rs (ms ++ someL (ns.getD 3 0) 8 many)).length ≤ 400 := by have := univ_short (ms := ms ++ someL (ns.getD 3 0) 8 many) hsh; rw [List.length_append] at this; omega
  refine ex_seq (ex_assign (ev_call gpu hpu (.cons (ev_name rfl rfl) (.cons (d := I (ms ++ someL (ns.getD 3 0) 8 many)) (by
    rw [show I (ms ++ someL (ns.getD 3 0) 8 many) = .list (ms.map .int ++ (someL (ns.getD 3 0) 8 many).map .int) by rw [← List.map_append]]
    exact ev_catL (ev_name rfl rfl) (ev_call gso hso (.cons (ev_call gce hce (.cons (ev_name rfl rfl) (.cons ev_int .nil rfl) rfl) (CELL 3 (by decide))) (.cons ev_int (.cons (ev_name rfl rfl) .nil rfl) rfl) rfl) (SOME _ 8 many (by decide) (by decide) hmv)) (by rw [List.length_map, List.length_map]; show _ + (someL (ns.getD 3 0) 8 many).length ≤ _; omega)) .nil rfl) rfl) (PUT rs _ hU3 hp1)) ?_)
  have hq1 := clo_put (ms := ms) (more := someL (ns.getD 3 0) 8 many) hp2
  have hq2 := clo_put (ms := ms) (more := []) hp2
  rw [List.append_nil] at hq2
  refine ex_seq (ex_if (b := false) (tr_lend (x := "_law_found") (a := a) (ds := (clo rs ms).map .int) rfl (.head _) (tr_or (a := !decide (lackL (clo rs ms) (putTo rs (ms ++ someL (ns.getD 3 0) 8 many)) = [])) (tr_cmp (ev_call gla hla (.cons (ev_name rfl rfl) (.cons (ev_name rfl rfl) .nil rfl) rfl) (LACK (clo rs ms) (putTo rs (ms ++ someL (ns.getD 3 0) 8 many)) (by omega))) (ev_list .nil (by simp)) fun X A s v u hA h1 h2 => cmp_Ne enc_I (by decide) (a := lackL (clo rs ms) (putTo rs (ms ++ someL (ns.getD 3 0) 8 many))) (b := []) hA h1 h2)
    (fun _ => tr_or (a := !decide (lackL (clo rs ms) (putTo rs ms) = [])) (tr_cmp (ev_call gla hla (.cons (ev_name rfl rfl) (.cons (ev_call gpu hpu (.cons (ev_name rfl rfl) (.cons (ev_name rfl rfl) .nil rfl) rfl) (PUT rs ms (by omega) hp1)) .nil rfl) rfl) (LACK (clo rs ms) (putTo rs ms) (by omega))) (ev_list .nil (by simp)) fun X A s v u hA h1 h2 => cmp_Ne enc_I (by decide) (a := lackL (clo rs ms) (putTo rs ms)) (b := []) hA h1 h2) (fun _ => tr_or0) (by simp [hq2])) (fun h => by rw [hq1] at h; simp at h))) (fun hb => nomatch hb) (fun _ => ex_nil ?_))
  refine ex_seq (ex_assign (evF_lend (x := "_law_found") (a := a) (ds := (clo rs ms).map .int) rfl (.head _) (evF_listOf glist boot_list (ev_name rfl rfl) (by rw [List.length_map]; omega) ints_scalar) ints_scalar).ev ?_)
  refine ex_seq (ex_append (x := "_law_found") (a := a) (ds := (clo rs ms).map .int) rfl (.head _) (ev_pow ev_int ev_int (by decide) (by decide) (by decide)) (by rw [List.length_map]; omega) ?_)
  refine ex_seq (ex_return (d := .bool true) (ev_and (a := decide (ms = ms)) (ev_cmp (ev_name rfl rfl) (ev_name rfl rfl) fun X A s v u hA h1 h2 => cmp_Eq enc_I (by decide) (a := ms) (b := ms) hA h1 h2)
    (fun _ => ev_and (a := decide (rs = rs)) (ev_cmp (ev_name rfl rfl) (ev_name rfl rfl) fun X A s v u hA h1 h2 => cmp_Eq enc_RS (by decide) (a := rs) (b := rs) hA h1 h2)
      (fun _ => ev_bool1 ?_) (by simp)) (by simp)) rfl)
  rw [← decide_eq_true (rfl : clo rs ms = clo rs ms)]
  exact ev_cmp (ev_call ggr hgr (.cons (ev_name rfl rfl) (.cons (ev_name rfl rfl) .nil rfl) rfl) (GROWN rs ms (by omega)).fn) (ev_name rfl rfl) fun X A s v u hA h1 h2 => cmp_Eq enc_I (by decide) (a := clo rs ms) (b := clo rs ms) hA h1 h2
end Mine
end

/-! # L4g -/
section
open PySem PySem.W PyProof.Rows
set_option Elab.async false
set_option maxRecDepth 100000
set_option maxHeartbeats 8000000
namespace Mine
open_top hd4 for PySem.Challenge.rw_uf060024_04
theorem law04 : PySem.Challenge.rw_uf060024_04.Holds := hd4 (by
  intro w s₀ s₁ mg mb G Y fa o pm cd doc dV kV ho hd hcd hD hmg hg args vals as hpre hlay hrd hwl hlo
  have KX := kIn_of Y
  refine Ground.open G ?_
  intro T B D TE TW
  wrow_args hpre hlay hrd hwl hlo
  clear hd hD hcd B D TE TW
  rename_i ns _ _ _ _ _ _ _ a vs _ hL _ _ _ hI _ hc _
  have hmg' : mg "law" = some (.ref fa) := hmg
  clear hmg
  have K : Lib ⟨PySem.Challenge.rw_uf060024_04.row.prog, w, s₁.heap, mg, mb, T.g, T.b, T.nolimit, T.builtins⟩ := by
    refine ⟨⟨_, mg_of KX T.g rfl, _, _, _, _, _, _, _, _, KX _ _ rfl, rfl, codeRec_of KX rfl⟩, ⟨_, mg_of KX T.g rfl, _, _, _, _, _, _, _, _, KX _ _ rfl, rfl, codeRec_of KX rfl⟩, ⟨_, mg_of KX T.g rfl, _, _, _, _, _, _, _, _, KX _ _ rfl, rfl, codeRec_of KX rfl⟩,
      ⟨_, mg_of KX T.g rfl, _, _, _, _, _, _, _, _, KX _ _ rfl, rfl, codeRec_of KX rfl⟩, ⟨_, mg_of KX T.g rfl, _, _, _, _, _, _, _, _, KX _ _ rfl, rfl, codeRec_of KX rfl⟩, ⟨_, mg_of KX T.g rfl, _, _, _, _, _, _, _, _, KX _ _ rfl, rfl, codeRec_of KX rfl⟩,
      ⟨_, mg_of KX T.g rfl, _, _, _, _, _, _, _, _, KX _ _ rfl, rfl, codeRec_of KX rfl⟩, ⟨_, mg_of KX T.g rfl, _, _, _, _, _, _, _, _, KX _ _ rfl, rfl, codeRec_of KX rfl⟩, ⟨_, mg_of KX T.g rfl, _, _, _, _, _, _, _, _, KX _ _ rfl, rfl, codeRec_of KX rfl⟩,
      mg_none_of KX T.g rfl, mg_none_of KX T.g rfl, mg_none_of KX T.g rfl, mg_none_of KX T.g rfl, mg_none_of KX T.g rfl, mg_none_of KX T.g rfl, mg_none_of KX T.g rfl, mg_none_of KX T.g rfl⟩
  have hlaw : FnAt ⟨PySem.Challenge.rw_uf060024_04.row.prog, w, s₁.heap, mg, mb, T.g, T.b, T.nolimit, T.builtins⟩ fa (st 12) := by
    obtain ⟨f, e, hf⟩ : ∃ f, mg "law" = some (.ref f) ∧ FnAt ⟨PySem.Challenge.rw_uf060024_04.row.prog, w, s₁.heap, mg, mb, T.g, T.b, T.nolimit, T.builtins⟩ f (st 12) := ⟨_, mg_of KX T.g rfl, _, _, _, _, _, _, _, _, KX _ _ rfl, rfl, codeRec_of KX rfl⟩
    rw [hmg'] at e
    cases e
    exact hf
  have F := law_ok hlaw K (ns := ns) (by omega)
  obtain ⟨ol, hol, hcl, nl, hdl⟩ := hL
  refine wpAny_mono (F (fun _ => False) callerA s₁ [.ref a] ⟨rfl, by decide +kernel, by decide +kernel⟩ (Sub.refl _) (fun _ h => h.elim) (.cons (.list (fun h => h) hol hcl hdl (by simpa using ints_rd hI)) .nil) _) (fun v s' q => ?_) fun _ _ e => e
  obtain ⟨k, r⟩ := q
  cases r
  exact GoodW.toG ⟨.inl ⟨_, .bool true, [], rfl, fun _ => rfl, .bool _, by with_unfolding_all rfl, fun _ => ⟨List.nodup_nil, fun _ h => nomatch h⟩⟩, k.sub, k.same.os, k.same.gens.trans hg⟩)
end Mine
theorem PySem.Challenge.cw_uf060024_04_holds : PySem.Challenge.rw_uf060024_04.Holds := by
  exact Mine.law04
end
